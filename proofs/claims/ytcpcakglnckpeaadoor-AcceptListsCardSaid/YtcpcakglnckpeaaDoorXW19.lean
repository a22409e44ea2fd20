/- Contracts of the seat (printed by ct.py). -/
import Derived.Test.YtcpcakglnckpeaaDoorXW18
set_option linter.unusedVariables false
set_option linter.unusedSimpArgs false
set_option maxRecDepth 20000
set_option maxHeartbeats 1000000
namespace Go.Aw.W
open Go Go.Aw Go.Proofs
attribute [local irreducible] evCode evFun evOps evDs evOne ctxK loopK loopB subC bodyC headS okH roundK

theorem pick_ok (x p : Bool) : x = true → (!p) = false → (x && !!p) = true := by cases x <;> cases p <;> decide
theorem pick_ok2 (x p : Bool) : x = true → p = true → (x && p) = true := by cases x <;> cases p <;> decide
theorem pick_ok3 (x p : Bool) : x = true → p = false → (x && !p) = true := by cases x <;> cases p <;> decide

/-! wireless/wirelesslaw20.AcceptAdds -/
def acceptAdds.res (r : Bool) : AV El := .v (.bool (r))
def acceptAdds.news (r : Bool) : List (AObj El) := []
def acceptAdds (l : List Address) (a : Address) : Bool := cond (decide ((100 : Int) < (↑(List.length l) : Int))) (true) (bif r20Same (accAdd (copied20 l) a).fst (r20Add l a).fst then (accAdd (copied20 l) a).snd == (r20Add l a).snd else false)
def acceptAdds.dec (cs : List (AV El)) : Option ((List Address) × Address) := popS 25 cs fun a0 c0 => popA Address.dec c0 fun a1 c1 => popE c1 (a0, a1)
def acceptAdds.enc (x : (List Address) × Address) : List (AV El) := [.sl 25 (x.1 : List (El 25)) false, Address.av x.2]
theorem acceptAdds.dec_ok : ∀ cs x, acceptAdds.dec cs = some x → Imp (S := S) cs (acceptAdds.enc x) := by
  intro cs x h
  unfold acceptAdds.dec at h
  obtain ⟨a0, c0, h0, k0⟩ := popS_some (S := S) (t := 25) h
  obtain ⟨a1, c1, h1, k1⟩ := popA_some (S := S) Address.dec_ok h0
  obtain ⟨rfl, rfl⟩ := popE_some (S := S) h1
  exact (k0 _ (k1 _ (.refl _)))
def acceptAdds.nf (l : List Address) (a : Address) (K : AV El → List (AObj El) → Prop) : Prop := (List.length l ≤ (9223372036854775807 : Nat)) → (cond (decide ((100 : Int) < (↑(List.length l) : Int))) (K (.v (.bool (true))) [.cells [.v (.int .i64 (a.Kind)), .v (.int .u64 (a.Bits))]]) (Ob (List.length l ≤ (4611686018427 : Nat)) ∧ (Ob (List.length (copied20 l) ≤ (4611686018427 : Nat)) ∧ (Ob (List.length l ≤ (4611686018427 : Nat)) ∧ (Ob (o3 (r20Same (accAdd (copied20 l) a).fst (r20Add l a).fst)) ∧ (Ob (o3 (r20Same (accAdd (copied20 l) a).fst (r20Add l a).fst)) ∧ (Ob (o2 (r20Same (accAdd (copied20 l) a).fst (r20Add l a).fst)) ∧ (K (.v (.bool (bif r20Same (accAdd (copied20 l) a).fst (r20Add l a).fst then (accAdd (copied20 l) a).snd == (r20Add l a).snd else false))) [.cells [.v (.int .i64 (a.Kind)), .v (.int .u64 (a.Bits))], .row 25 ((r20Add l a).fst : List (El 25))]))))))))
theorem acceptAdds.nf_ok (l : List Address) (a : Address) (K : AV El → List (AObj El) → Prop) : evFun (mkCxI Tryd.prog S tab_lives20 0 true sum_dDel) 4 3 [.sl 25 (l : List (El 25)) false, Address.av a] [] K = acceptAdds.nf l a K := by kernel_rfl
theorem acceptAdds.key (l : List Address) (a : Address) (v : Bool) (hv : v = acceptAdds l a) : acceptAdds.nf l a (fun r' H' => Gives r' H' (acceptAdds.res v) (acceptAdds.news v)) := by
  unfold acceptAdds at hv
  unfold acceptAdds.nf
  intro hlen
  revert hv; refine by_cond2 (fun hb hv => ?_) (fun hb hv => ?_)
  subst hv; exact And.intro (by kernel_rfl) (by kernel_rfl)
  refine ⟨⟨?_⟩, ?_⟩; rotate_left
  refine ⟨⟨?_⟩, ?_⟩; rotate_left
  refine ⟨⟨?_⟩, ?_⟩; rotate_left
  refine ⟨⟨o3_ok _⟩, ?_⟩
  refine ⟨⟨o3_ok _⟩, ?_⟩
  refine ⟨⟨o2_ok _⟩, ?_⟩
  subst hv; exact And.intro (by kernel_rfl) (by kernel_rfl)
  all_goals ((try clear hv); (try clear q1 q2); (try clear hk); (first | omega | (exact pick_ok _ _) | (exact pick_ok2 _ _) | (exact pick_ok3 _ _) | ((try simp only [decide_eq_true_eq, decide_eq_false_iff_not, Bool.not_eq_true, Bool.not_eq_false, Bool.and_eq_true, Bool.or_eq_true, Bool.not_not, cond_and, cond_or, List.length_append, List.length_cons, List.length_nil] at *); (first | done | ((first | omega | (intros; (try simp only [Bool.not_not, cond_and, cond_or, Bool.and_eq_true, decide_eq_true_eq] at *); (simp only [copied20, same20, List.nil_append] at *; omega)) | (intros; (try simp only [Bool.not_not, cond_and, cond_or, Bool.and_eq_true, decide_eq_true_eq] at *); (simp only [copied20, List.nil_append]; omega)) | (intros; (try simp only [Bool.not_not, cond_and, cond_or, Bool.and_eq_true, decide_eq_true_eq] at *); (simp only [same20, List.nil_append]; omega)) | (intros; (try simp only [Bool.not_not, cond_and, cond_or, Bool.and_eq_true, decide_eq_true_eq] at *); (simp only [aClone, List.length_cons, List.length_nil] at *; omega)) | (intros; (try simp only [Bool.not_not, cond_and, cond_or, Bool.and_eq_true, decide_eq_true_eq] at *); (decide +kernel)) | (intros; (try simp only [Bool.not_not, cond_and, cond_or, Bool.and_eq_true, decide_eq_true_eq] at *); (simp only [aClone] at *; omega)) | (intros; (try simp only [Bool.not_not, cond_and, cond_or, Bool.and_eq_true, decide_eq_true_eq] at *); (exact band_nn rfl _ _)) | (intros; (try simp only [Bool.not_not, cond_and, cond_or, Bool.and_eq_true, decide_eq_true_eq] at *); (exact (wu64s _).2.1)) | (intros; (try simp only [Bool.not_not, cond_and, cond_or, Bool.and_eq_true, decide_eq_true_eq] at *); (simp only [Bool.or_eq_false_iff, Bool.and_eq_false_iff, decide_eq_false_iff_not, decide_eq_true_eq, bne_iff_ne, beq_iff_eq, bne_eq_false_iff_eq, beq_eq_false_iff_ne, ne_eq, true_and] at *; omega)) | (intros; (try simp only [Bool.not_not, cond_and, cond_or, Bool.and_eq_true, decide_eq_true_eq] at *); (simp only [List.length_drop, List.length_take, List.length_append, List.length_cons, List.length_nil] at *; omega)) | (intros; (try simp only [Bool.not_not, cond_and, cond_or, Bool.and_eq_true, decide_eq_true_eq] at *); (simp_all; omega)) | (intros; (try simp only [Bool.not_not, cond_and, cond_or, Bool.and_eq_true, decide_eq_true_eq] at *); (simp_all [copied20, same20]; omega)) | (intros; omega) | (intros; simp only [Bool.not_not, cond_and, cond_or, Bool.and_eq_true, decide_eq_true_eq] at *; omega) | (intros; simp_all [Bool.not_not]; done)))))))
def acceptAdds.ct : Ct El := ctOf acceptAdds.dec (fun _ => []) (fun x => acceptAdds.res (acceptAdds x.1 x.2)) (fun x => acceptAdds.news (acceptAdds x.1 x.2))
theorem acceptAdds.ok : CtOk (mkCx Tryd.prog S [] 0) 3 acceptAdds.ct := ct_mk (C := (mkCxI Tryd.prog S tab_lives20 0 true sum_dDel)) (mkCxI_ok sigOk mixed tab_lives20_ok 0 true sum_dDel_ok) acceptAdds.dec_ok (fun x => rfl) 4 (fun x _ => (acceptAdds.nf_ok x.1 x.2 _).mpr (acceptAdds.key x.1 x.2 _ rfl))
def tab_acceptAdds : List (FuncId × Ct El) := (3, acceptAdds.ct) :: tab_lives20
theorem tab_acceptAdds_ok : TabOk Tryd.prog S tab_acceptAdds := ⟨acceptAdds.ok, by kernel_rfl, tab_lives20_ok⟩

/-! wireless/wirelesslaw20.AcceptRemoves -/
def acceptRemoves.res (r : Bool) : AV El := .v (.bool (r))
def acceptRemoves.news (r : Bool) : List (AObj El) := []
def acceptRemoves (l : List Address) (a : Address) : Bool := cond (decide ((100 : Int) < (↑(List.length l) : Int))) (true) (bif r20Same (accRemove (copied20 l) a).fst (r20Remove l a).fst then (accRemove (copied20 l) a).snd == (r20Remove l a).snd else false)
def acceptRemoves.dec (cs : List (AV El)) : Option ((List Address) × Address) := popS 25 cs fun a0 c0 => popA Address.dec c0 fun a1 c1 => popE c1 (a0, a1)
def acceptRemoves.enc (x : (List Address) × Address) : List (AV El) := [.sl 25 (x.1 : List (El 25)) false, Address.av x.2]
theorem acceptRemoves.dec_ok : ∀ cs x, acceptRemoves.dec cs = some x → Imp (S := S) cs (acceptRemoves.enc x) := by
  intro cs x h
  unfold acceptRemoves.dec at h
  obtain ⟨a0, c0, h0, k0⟩ := popS_some (S := S) (t := 25) h
  obtain ⟨a1, c1, h1, k1⟩ := popA_some (S := S) Address.dec_ok h0
  obtain ⟨rfl, rfl⟩ := popE_some (S := S) h1
  exact (k0 _ (k1 _ (.refl _)))
def acceptRemoves.nf (l : List Address) (a : Address) (K : AV El → List (AObj El) → Prop) : Prop := (List.length l ≤ (9223372036854775807 : Nat)) → (cond (decide ((100 : Int) < (↑(List.length l) : Int))) (K (.v (.bool (true))) [.cells [.v (.int .i64 (a.Kind)), .v (.int .u64 (a.Bits))]]) (Ob (List.length l ≤ (4611686018427 : Nat)) ∧ (Ob (List.length (copied20 l) ≤ (4611686018427 : Nat)) ∧ (Ob (List.length l ≤ (4611686018427 : Nat)) ∧ (Ob (o3 (r20Same (accRemove (copied20 l) a).fst (r20Remove l a).fst)) ∧ (Ob (o3 (r20Same (accRemove (copied20 l) a).fst (r20Remove l a).fst)) ∧ (Ob (o2 (r20Same (accRemove (copied20 l) a).fst (r20Remove l a).fst)) ∧ (K (.v (.bool (bif r20Same (accRemove (copied20 l) a).fst (r20Remove l a).fst then (accRemove (copied20 l) a).snd == (r20Remove l a).snd else false))) [.cells [.v (.int .i64 (a.Kind)), .v (.int .u64 (a.Bits))], .row 25 ((r20Remove l a).fst : List (El 25))]))))))))
theorem acceptRemoves.nf_ok (l : List Address) (a : Address) (K : AV El → List (AObj El) → Prop) : evFun (mkCxI Tryd.prog S tab_lives20 0 true sum_dDel) 4 4 [.sl 25 (l : List (El 25)) false, Address.av a] [] K = acceptRemoves.nf l a K := by kernel_rfl
theorem acceptRemoves.key (l : List Address) (a : Address) (v : Bool) (hv : v = acceptRemoves l a) : acceptRemoves.nf l a (fun r' H' => Gives r' H' (acceptRemoves.res v) (acceptRemoves.news v)) := by
  unfold acceptRemoves at hv
  unfold acceptRemoves.nf
  intro hlen
  revert hv; refine by_cond2 (fun hb hv => ?_) (fun hb hv => ?_)
  subst hv; exact And.intro (by kernel_rfl) (by kernel_rfl)
  refine ⟨⟨?_⟩, ?_⟩; rotate_left
  refine ⟨⟨?_⟩, ?_⟩; rotate_left
  refine ⟨⟨?_⟩, ?_⟩; rotate_left
  refine ⟨⟨o3_ok _⟩, ?_⟩
  refine ⟨⟨o3_ok _⟩, ?_⟩
  refine ⟨⟨o2_ok _⟩, ?_⟩
  subst hv; exact And.intro (by kernel_rfl) (by kernel_rfl)
  all_goals ((try clear hv); (try clear q1 q2); (try clear hk); (first | omega | (exact pick_ok _ _) | (exact pick_ok2 _ _) | (exact pick_ok3 _ _) | ((try simp only [decide_eq_true_eq, decide_eq_false_iff_not, Bool.not_eq_true, Bool.not_eq_false, Bool.and_eq_true, Bool.or_eq_true, Bool.not_not, cond_and, cond_or, List.length_append, List.length_cons, List.length_nil] at *); (first | done | ((first | omega | (intros; (try simp only [Bool.not_not, cond_and, cond_or, Bool.and_eq_true, decide_eq_true_eq] at *); (simp only [copied20, same20, List.nil_append] at *; omega)) | (intros; (try simp only [Bool.not_not, cond_and, cond_or, Bool.and_eq_true, decide_eq_true_eq] at *); (simp only [copied20, List.nil_append]; omega)) | (intros; (try simp only [Bool.not_not, cond_and, cond_or, Bool.and_eq_true, decide_eq_true_eq] at *); (simp only [same20, List.nil_append]; omega)) | (intros; (try simp only [Bool.not_not, cond_and, cond_or, Bool.and_eq_true, decide_eq_true_eq] at *); (simp only [aClone, List.length_cons, List.length_nil] at *; omega)) | (intros; (try simp only [Bool.not_not, cond_and, cond_or, Bool.and_eq_true, decide_eq_true_eq] at *); (decide +kernel)) | (intros; (try simp only [Bool.not_not, cond_and, cond_or, Bool.and_eq_true, decide_eq_true_eq] at *); (simp only [aClone] at *; omega)) | (intros; (try simp only [Bool.not_not, cond_and, cond_or, Bool.and_eq_true, decide_eq_true_eq] at *); (exact band_nn rfl _ _)) | (intros; (try simp only [Bool.not_not, cond_and, cond_or, Bool.and_eq_true, decide_eq_true_eq] at *); (exact (wu64s _).2.1)) | (intros; (try simp only [Bool.not_not, cond_and, cond_or, Bool.and_eq_true, decide_eq_true_eq] at *); (simp only [Bool.or_eq_false_iff, Bool.and_eq_false_iff, decide_eq_false_iff_not, decide_eq_true_eq, bne_iff_ne, beq_iff_eq, bne_eq_false_iff_eq, beq_eq_false_iff_ne, ne_eq, true_and] at *; omega)) | (intros; (try simp only [Bool.not_not, cond_and, cond_or, Bool.and_eq_true, decide_eq_true_eq] at *); (simp only [List.length_drop, List.length_take, List.length_append, List.length_cons, List.length_nil] at *; omega)) | (intros; (try simp only [Bool.not_not, cond_and, cond_or, Bool.and_eq_true, decide_eq_true_eq] at *); (simp_all; omega)) | (intros; (try simp only [Bool.not_not, cond_and, cond_or, Bool.and_eq_true, decide_eq_true_eq] at *); (simp_all [copied20, same20]; omega)) | (intros; omega) | (intros; simp only [Bool.not_not, cond_and, cond_or, Bool.and_eq_true, decide_eq_true_eq] at *; omega) | (intros; simp_all [Bool.not_not]; done)))))))
def acceptRemoves.ct : Ct El := ctOf acceptRemoves.dec (fun _ => []) (fun x => acceptRemoves.res (acceptRemoves x.1 x.2)) (fun x => acceptRemoves.news (acceptRemoves x.1 x.2))
theorem acceptRemoves.ok : CtOk (mkCx Tryd.prog S [] 0) 4 acceptRemoves.ct := ct_mk (C := (mkCxI Tryd.prog S tab_lives20 0 true sum_dDel)) (mkCxI_ok sigOk mixed tab_lives20_ok 0 true sum_dDel_ok) acceptRemoves.dec_ok (fun x => rfl) 4 (fun x _ => (acceptRemoves.nf_ok x.1 x.2 _).mpr (acceptRemoves.key x.1 x.2 _ rfl))
def tab_acceptRemoves : List (FuncId × Ct El) := (4, acceptRemoves.ct) :: tab_acceptAdds
theorem tab_acceptRemoves_ok : TabOk Tryd.prog S tab_acceptRemoves := ⟨acceptRemoves.ok, by kernel_rfl, tab_acceptAdds_ok⟩

/-! wireless/wirelesslaw20.AcceptHas -/
def acceptHas.res (r : Bool) : AV El := .v (.bool (r))
def acceptHas.news (r : Bool) : List (AObj El) := []
def acceptHas (l : List Address) (ids : List Identity) (a : Address) : Bool := bif lives20 then
  bif
      bif decide ((100 : Int) < (↑(List.length l) : Int)) then true
      else decide ((20 : Int) < (↑(List.length ids) : Int)) then
    true
  else accHas (copied20 l) (same20 ids) a == r20Has l ids a
else false
def acceptHas.dec (cs : List (AV El)) : Option ((List Address) × (List Identity) × Address) := popS 25 cs fun a0 c0 => popS 72 c0 fun a1 c1 => popA Address.dec c1 fun a2 c2 => popE c2 (a0, a1, a2)
def acceptHas.enc (x : (List Address) × (List Identity) × Address) : List (AV El) := [.sl 25 (x.1 : List (El 25)) false, .sl 72 (x.2.1 : List (El 72)) false, Address.av x.2.2]
theorem acceptHas.dec_ok : ∀ cs x, acceptHas.dec cs = some x → Imp (S := S) cs (acceptHas.enc x) := by
  intro cs x h
  unfold acceptHas.dec at h
  obtain ⟨a0, c0, h0, k0⟩ := popS_some (S := S) (t := 25) h
  obtain ⟨a1, c1, h1, k1⟩ := popS_some (S := S) (t := 72) h0
  obtain ⟨a2, c2, h2, k2⟩ := popA_some (S := S) Address.dec_ok h1
  obtain ⟨rfl, rfl⟩ := popE_some (S := S) h2
  exact (k0 _ (k1 _ (k2 _ (.refl _))))
def acceptHas.nf (l : List Address) (ids : List Identity) (a : Address) (K : AV El → List (AObj El) → Prop) : Prop := Ob (o3 (lives20)) ∧ (Ob (o3 (lives20)) ∧ (Ob (o3 (lives20)) ∧ (Ob (o3 (lives20 && !decide ((100 : Int) < (↑(List.length l) : Int)))) ∧ (Ob (o3 (lives20 && !decide ((100 : Int) < (↑(List.length l) : Int)))) ∧ (Ob (o2 (lives20)) ∧ (Ob (lives20 = true → decide ((100 : Int) < (↑(List.length l) : Int)) = false → (lives20 && !decide ((100 : Int) < (↑(List.length l) : Int))) = true) ∧ (Ob (o3 (lives20)) ∧ (Ob (o3 (lives20 && !bif decide ((100 : Int) < (↑(List.length l) : Int)) then true else decide ((20 : Int) < (↑(List.length ids) : Int)))) ∧ (Ob ((lives20 && !bif decide ((100 : Int) < (↑(List.length l) : Int)) then true else decide ((20 : Int) < (↑(List.length ids) : Int))) = true → List.length l ≤ (4611686018427 : Nat)) ∧ (Ob (o3 (lives20 && !bif decide ((100 : Int) < (↑(List.length l) : Int)) then true else decide ((20 : Int) < (↑(List.length ids) : Int)))) ∧ (Ob ((lives20 && !bif decide ((100 : Int) < (↑(List.length l) : Int)) then true else decide ((20 : Int) < (↑(List.length ids) : Int))) = true → List.length ids ≤ (4611686018427 : Nat)) ∧ (Ob (o3 (lives20 && !bif decide ((100 : Int) < (↑(List.length l) : Int)) then true else decide ((20 : Int) < (↑(List.length ids) : Int)))) ∧ (Ob (o3 (lives20 && !bif decide ((100 : Int) < (↑(List.length l) : Int)) then true else decide ((20 : Int) < (↑(List.length ids) : Int)))) ∧ (Ob (o3 (lives20 && !bif decide ((100 : Int) < (↑(List.length l) : Int)) then true else decide ((20 : Int) < (↑(List.length ids) : Int)))) ∧ (Ob (o3 (lives20 && !bif decide ((100 : Int) < (↑(List.length l) : Int)) then true else decide ((20 : Int) < (↑(List.length ids) : Int)))) ∧ (Ob (o3 (lives20 && !bif decide ((100 : Int) < (↑(List.length l) : Int)) then true else decide ((20 : Int) < (↑(List.length ids) : Int)))) ∧ (Ob (o3 (lives20 && !bif decide ((100 : Int) < (↑(List.length l) : Int)) then true else decide ((20 : Int) < (↑(List.length ids) : Int)))) ∧ (Ob (o3 (lives20 && !bif decide ((100 : Int) < (↑(List.length l) : Int)) then true else decide ((20 : Int) < (↑(List.length ids) : Int)))) ∧ (Ob (o3 (lives20 && !bif decide ((100 : Int) < (↑(List.length l) : Int)) then true else decide ((20 : Int) < (↑(List.length ids) : Int)))) ∧ (Ob (o2 (lives20)) ∧ (Ob (lives20 = true → (bif decide ((100 : Int) < (↑(List.length l) : Int)) then true else decide ((20 : Int) < (↑(List.length ids) : Int))) = false → (lives20 && !bif decide ((100 : Int) < (↑(List.length l) : Int)) then true else decide ((20 : Int) < (↑(List.length ids) : Int))) = true) ∧ (Ob (o2 (lives20)) ∧ (K (.v (.bool (bif lives20 then bif bif decide ((100 : Int) < (↑(List.length l) : Int)) then true else decide ((20 : Int) < (↑(List.length ids) : Int)) then true else accHas (copied20 l) (same20 ids) a == r20Has l ids a else false))) [.cells [.v (.int .i64 (a.Kind)), .v (.int .u64 (a.Bits))]])))))))))))))))))))))))
theorem acceptHas.nf_ok (l : List Address) (ids : List Identity) (a : Address) (K : AV El → List (AObj El) → Prop) : evFun (mkCxI Tryd.prog S tab_lives20 0 true sum_dDel) 4 5 [.sl 25 (l : List (El 25)) false, .sl 72 (ids : List (El 72)) false, Address.av a] [] K = acceptHas.nf l ids a K := by kernel_rfl
theorem acceptHas.key (l : List Address) (ids : List Identity) (a : Address) (v : Bool) (hv : v = acceptHas l ids a) : acceptHas.nf l ids a (fun r' H' => Gives r' H' (acceptHas.res v) (acceptHas.news v)) := by
  unfold acceptHas at hv
  unfold acceptHas.nf
  refine ⟨⟨o3_ok _⟩, ?_⟩
  refine ⟨⟨o3_ok _⟩, ?_⟩
  refine ⟨⟨o3_ok _⟩, ?_⟩
  refine ⟨⟨o3_ok _⟩, ?_⟩
  refine ⟨⟨o3_ok _⟩, ?_⟩
  refine ⟨⟨o2_ok _⟩, ?_⟩
  refine ⟨⟨?_⟩, ?_⟩; rotate_left
  refine ⟨⟨o3_ok _⟩, ?_⟩
  refine ⟨⟨o3_ok _⟩, ?_⟩
  refine ⟨⟨?_⟩, ?_⟩; rotate_left
  refine ⟨⟨o3_ok _⟩, ?_⟩
  refine ⟨⟨?_⟩, ?_⟩; rotate_left
  refine ⟨⟨o3_ok _⟩, ?_⟩
  refine ⟨⟨o3_ok _⟩, ?_⟩
  refine ⟨⟨o3_ok _⟩, ?_⟩
  refine ⟨⟨o3_ok _⟩, ?_⟩
  refine ⟨⟨o3_ok _⟩, ?_⟩
  refine ⟨⟨o3_ok _⟩, ?_⟩
  refine ⟨⟨o3_ok _⟩, ?_⟩
  refine ⟨⟨o3_ok _⟩, ?_⟩
  refine ⟨⟨o2_ok _⟩, ?_⟩
  refine ⟨⟨?_⟩, ?_⟩; rotate_left
  refine ⟨⟨o2_ok _⟩, ?_⟩
  subst hv; exact And.intro (by kernel_rfl) (by kernel_rfl)
  all_goals ((try clear hv); (try clear q1 q2); (try clear hk); (first | omega | (exact pick_ok _ _) | (exact pick_ok2 _ _) | (exact pick_ok3 _ _) | ((try simp only [decide_eq_true_eq, decide_eq_false_iff_not, Bool.not_eq_true, Bool.not_eq_false, Bool.and_eq_true, Bool.or_eq_true, Bool.not_not, cond_and, cond_or, List.length_append, List.length_cons, List.length_nil] at *); (first | done | ((first | omega | (intros; (try simp only [Bool.not_not, cond_and, cond_or, Bool.and_eq_true, decide_eq_true_eq] at *); (simp only [copied20, same20, List.nil_append] at *; omega)) | (intros; (try simp only [Bool.not_not, cond_and, cond_or, Bool.and_eq_true, decide_eq_true_eq] at *); (simp only [copied20, List.nil_append]; omega)) | (intros; (try simp only [Bool.not_not, cond_and, cond_or, Bool.and_eq_true, decide_eq_true_eq] at *); (simp only [same20, List.nil_append]; omega)) | (intros; (try simp only [Bool.not_not, cond_and, cond_or, Bool.and_eq_true, decide_eq_true_eq] at *); (simp only [aClone, List.length_cons, List.length_nil] at *; omega)) | (intros; (try simp only [Bool.not_not, cond_and, cond_or, Bool.and_eq_true, decide_eq_true_eq] at *); (decide +kernel)) | (intros; (try simp only [Bool.not_not, cond_and, cond_or, Bool.and_eq_true, decide_eq_true_eq] at *); (simp only [aClone] at *; omega)) | (intros; (try simp only [Bool.not_not, cond_and, cond_or, Bool.and_eq_true, decide_eq_true_eq] at *); (exact band_nn rfl _ _)) | (intros; (try simp only [Bool.not_not, cond_and, cond_or, Bool.and_eq_true, decide_eq_true_eq] at *); (exact (wu64s _).2.1)) | (intros; (try simp only [Bool.not_not, cond_and, cond_or, Bool.and_eq_true, decide_eq_true_eq] at *); (simp only [Bool.or_eq_false_iff, Bool.and_eq_false_iff, decide_eq_false_iff_not, decide_eq_true_eq, bne_iff_ne, beq_iff_eq, bne_eq_false_iff_eq, beq_eq_false_iff_ne, ne_eq, true_and] at *; omega)) | (intros; (try simp only [Bool.not_not, cond_and, cond_or, Bool.and_eq_true, decide_eq_true_eq] at *); (simp only [List.length_drop, List.length_take, List.length_append, List.length_cons, List.length_nil] at *; omega)) | (intros; (try simp only [Bool.not_not, cond_and, cond_or, Bool.and_eq_true, decide_eq_true_eq] at *); (simp_all; omega)) | (intros; (try simp only [Bool.not_not, cond_and, cond_or, Bool.and_eq_true, decide_eq_true_eq] at *); (simp_all [copied20, same20]; omega)) | (intros; omega) | (intros; simp only [Bool.not_not, cond_and, cond_or, Bool.and_eq_true, decide_eq_true_eq] at *; omega) | (intros; simp_all [Bool.not_not]; done)))))))
def acceptHas.ct : Ct El := ctOf acceptHas.dec (fun _ => []) (fun x => acceptHas.res (acceptHas x.1 x.2.1 x.2.2)) (fun x => acceptHas.news (acceptHas x.1 x.2.1 x.2.2))
theorem acceptHas.ok : CtOk (mkCx Tryd.prog S [] 0) 5 acceptHas.ct := ct_mk (C := (mkCxI Tryd.prog S tab_lives20 0 true sum_dDel)) (mkCxI_ok sigOk mixed tab_lives20_ok 0 true sum_dDel_ok) acceptHas.dec_ok (fun x => rfl) 4 (fun x _ => (acceptHas.nf_ok x.1 x.2.1 x.2.2 _).mpr (acceptHas.key x.1 x.2.1 x.2.2 _ rfl))
def tab_acceptHas : List (FuncId × Ct El) := (5, acceptHas.ct) :: tab_acceptRemoves
theorem tab_acceptHas_ok : TabOk Tryd.prog S tab_acceptHas := ⟨acceptHas.ok, by kernel_rfl, tab_acceptRemoves_ok⟩

/-! wireless/wirelesslaw20.AcceptAllows -/
def acceptAllows.res (r : Bool) : AV El := .v (.bool (r))
def acceptAllows.news (r : Bool) : List (AObj El) := []
def acceptAllows (l : List Address) (ids : List Identity) (p2 : Law20Ask) : Bool := bif lives20 then
  bif
      bif decide ((100 : Int) < (↑(List.length l) : Int)) then true
      else decide ((20 : Int) < (↑(List.length ids) : Int)) then
    true
  else accAllows p2.Policy p2.Request (copied20 l) (same20 ids) p2.From == r20Allows p2.Policy p2.Request l ids p2.From
else false
def acceptAllows.dec (cs : List (AV El)) : Option ((List Address) × (List Identity) × Law20Ask) := popS 25 cs fun a0 c0 => popS 72 c0 fun a1 c1 => popA Law20Ask.dec c1 fun a2 c2 => popE c2 (a0, a1, a2)
def acceptAllows.enc (x : (List Address) × (List Identity) × Law20Ask) : List (AV El) := [.sl 25 (x.1 : List (El 25)) false, .sl 72 (x.2.1 : List (El 72)) false, Law20Ask.av x.2.2]
theorem acceptAllows.dec_ok : ∀ cs x, acceptAllows.dec cs = some x → Imp (S := S) cs (acceptAllows.enc x) := by
  intro cs x h
  unfold acceptAllows.dec at h
  obtain ⟨a0, c0, h0, k0⟩ := popS_some (S := S) (t := 25) h
  obtain ⟨a1, c1, h1, k1⟩ := popS_some (S := S) (t := 72) h0
  obtain ⟨a2, c2, h2, k2⟩ := popA_some (S := S) Law20Ask.dec_ok h1
  obtain ⟨rfl, rfl⟩ := popE_some (S := S) h2
  exact (k0 _ (k1 _ (k2 _ (.refl _))))
def acceptAllows.nf (l : List Address) (ids : List Identity) (p2 : Law20Ask) (K : AV El → List (AObj El) → Prop) : Prop := Ob (o3 (lives20)) ∧ (Ob (o3 (lives20)) ∧ (Ob (o3 (lives20)) ∧ (Ob (o3 (lives20 && !decide ((100 : Int) < (↑(List.length l) : Int)))) ∧ (Ob (o3 (lives20 && !decide ((100 : Int) < (↑(List.length l) : Int)))) ∧ (Ob (o2 (lives20)) ∧ (Ob (lives20 = true → decide ((100 : Int) < (↑(List.length l) : Int)) = false → (lives20 && !decide ((100 : Int) < (↑(List.length l) : Int))) = true) ∧ (Ob (o3 (lives20)) ∧ (Ob (o3 (lives20 && !bif decide ((100 : Int) < (↑(List.length l) : Int)) then true else decide ((20 : Int) < (↑(List.length ids) : Int)))) ∧ (Ob (o3 (lives20 && !bif decide ((100 : Int) < (↑(List.length l) : Int)) then true else decide ((20 : Int) < (↑(List.length ids) : Int)))) ∧ (Ob (o3 (lives20 && !bif decide ((100 : Int) < (↑(List.length l) : Int)) then true else decide ((20 : Int) < (↑(List.length ids) : Int)))) ∧ (Ob ((lives20 && !bif decide ((100 : Int) < (↑(List.length l) : Int)) then true else decide ((20 : Int) < (↑(List.length ids) : Int))) = true → List.length l ≤ (4611686018427 : Nat)) ∧ (Ob (o3 (lives20 && !bif decide ((100 : Int) < (↑(List.length l) : Int)) then true else decide ((20 : Int) < (↑(List.length ids) : Int)))) ∧ (Ob ((lives20 && !bif decide ((100 : Int) < (↑(List.length l) : Int)) then true else decide ((20 : Int) < (↑(List.length ids) : Int))) = true → List.length ids ≤ (4611686018427 : Nat)) ∧ (Ob (o3 (lives20 && !bif decide ((100 : Int) < (↑(List.length l) : Int)) then true else decide ((20 : Int) < (↑(List.length ids) : Int)))) ∧ (Ob (o3 (lives20 && !bif decide ((100 : Int) < (↑(List.length l) : Int)) then true else decide ((20 : Int) < (↑(List.length ids) : Int)))) ∧ (Ob (o3 (lives20 && !bif decide ((100 : Int) < (↑(List.length l) : Int)) then true else decide ((20 : Int) < (↑(List.length ids) : Int)))) ∧ (Ob (o3 (lives20 && !bif decide ((100 : Int) < (↑(List.length l) : Int)) then true else decide ((20 : Int) < (↑(List.length ids) : Int)))) ∧ (Ob (o3 (lives20 && !bif decide ((100 : Int) < (↑(List.length l) : Int)) then true else decide ((20 : Int) < (↑(List.length ids) : Int)))) ∧ (Ob (o3 (lives20 && !bif decide ((100 : Int) < (↑(List.length l) : Int)) then true else decide ((20 : Int) < (↑(List.length ids) : Int)))) ∧ (Ob (o3 (lives20 && !bif decide ((100 : Int) < (↑(List.length l) : Int)) then true else decide ((20 : Int) < (↑(List.length ids) : Int)))) ∧ (Ob (o3 (lives20 && !bif decide ((100 : Int) < (↑(List.length l) : Int)) then true else decide ((20 : Int) < (↑(List.length ids) : Int)))) ∧ (Ob (o3 (lives20 && !bif decide ((100 : Int) < (↑(List.length l) : Int)) then true else decide ((20 : Int) < (↑(List.length ids) : Int)))) ∧ (Ob (o3 (lives20 && !bif decide ((100 : Int) < (↑(List.length l) : Int)) then true else decide ((20 : Int) < (↑(List.length ids) : Int)))) ∧ (Ob (o3 (lives20 && !bif decide ((100 : Int) < (↑(List.length l) : Int)) then true else decide ((20 : Int) < (↑(List.length ids) : Int)))) ∧ (Ob (o3 (lives20 && !bif decide ((100 : Int) < (↑(List.length l) : Int)) then true else decide ((20 : Int) < (↑(List.length ids) : Int)))) ∧ (Ob (o3 (lives20 && !bif decide ((100 : Int) < (↑(List.length l) : Int)) then true else decide ((20 : Int) < (↑(List.length ids) : Int)))) ∧ (Ob (o3 (lives20 && !bif decide ((100 : Int) < (↑(List.length l) : Int)) then true else decide ((20 : Int) < (↑(List.length ids) : Int)))) ∧ (Ob (o3 (lives20 && !bif decide ((100 : Int) < (↑(List.length l) : Int)) then true else decide ((20 : Int) < (↑(List.length ids) : Int)))) ∧ (Ob (o3 (lives20 && !bif decide ((100 : Int) < (↑(List.length l) : Int)) then true else decide ((20 : Int) < (↑(List.length ids) : Int)))) ∧ (Ob (o2 (lives20)) ∧ (Ob (lives20 = true → (bif decide ((100 : Int) < (↑(List.length l) : Int)) then true else decide ((20 : Int) < (↑(List.length ids) : Int))) = false → (lives20 && !bif decide ((100 : Int) < (↑(List.length l) : Int)) then true else decide ((20 : Int) < (↑(List.length ids) : Int))) = true) ∧ (Ob (o2 (lives20)) ∧ (K (.v (.bool (bif lives20 then bif bif decide ((100 : Int) < (↑(List.length l) : Int)) then true else decide ((20 : Int) < (↑(List.length ids) : Int)) then true else accAllows p2.Policy p2.Request (copied20 l) (same20 ids) p2.From == r20Allows p2.Policy p2.Request l ids p2.From else false))) [.cells [.v (.int .i64 (p2.Policy)), .v (.int .i64 (p2.Request)), .v (.int .i64 (p2.From.Kind)), .v (.int .u64 (p2.From.Bits))]])))))))))))))))))))))))))))))))))
theorem acceptAllows.nf_ok (l : List Address) (ids : List Identity) (p2 : Law20Ask) (K : AV El → List (AObj El) → Prop) : evFun (mkCxI Tryd.prog S tab_lives20 0 true sum_dDel) 4 6 [.sl 25 (l : List (El 25)) false, .sl 72 (ids : List (El 72)) false, Law20Ask.av p2] [] K = acceptAllows.nf l ids p2 K := by kernel_rfl
theorem acceptAllows.key (l : List Address) (ids : List Identity) (p2 : Law20Ask) (v : Bool) (hv : v = acceptAllows l ids p2) : acceptAllows.nf l ids p2 (fun r' H' => Gives r' H' (acceptAllows.res v) (acceptAllows.news v)) := by
  unfold acceptAllows at hv
  unfold acceptAllows.nf
  refine ⟨⟨o3_ok _⟩, ?_⟩
  refine ⟨⟨o3_ok _⟩, ?_⟩
  refine ⟨⟨o3_ok _⟩, ?_⟩
  refine ⟨⟨o3_ok _⟩, ?_⟩
  refine ⟨⟨o3_ok _⟩, ?_⟩
  refine ⟨⟨o2_ok _⟩, ?_⟩
  refine ⟨⟨?_⟩, ?_⟩; rotate_left
  refine ⟨⟨o3_ok _⟩, ?_⟩
  refine ⟨⟨o3_ok _⟩, ?_⟩
  refine ⟨⟨o3_ok _⟩, ?_⟩
  refine ⟨⟨o3_ok _⟩, ?_⟩
  refine ⟨⟨?_⟩, ?_⟩; rotate_left
  refine ⟨⟨o3_ok _⟩, ?_⟩
  refine ⟨⟨?_⟩, ?_⟩; rotate_left
  refine ⟨⟨o3_ok _⟩, ?_⟩
  refine ⟨⟨o3_ok _⟩, ?_⟩
  refine ⟨⟨o3_ok _⟩, ?_⟩
  refine ⟨⟨o3_ok _⟩, ?_⟩
  refine ⟨⟨o3_ok _⟩, ?_⟩
  refine ⟨⟨o3_ok _⟩, ?_⟩
  refine ⟨⟨o3_ok _⟩, ?_⟩
  refine ⟨⟨o3_ok _⟩, ?_⟩
  refine ⟨⟨o3_ok _⟩, ?_⟩
  refine ⟨⟨o3_ok _⟩, ?_⟩
  refine ⟨⟨o3_ok _⟩, ?_⟩
  refine ⟨⟨o3_ok _⟩, ?_⟩
  refine ⟨⟨o3_ok _⟩, ?_⟩
  refine ⟨⟨o3_ok _⟩, ?_⟩
  refine ⟨⟨o3_ok _⟩, ?_⟩
  refine ⟨⟨o3_ok _⟩, ?_⟩
  refine ⟨⟨o2_ok _⟩, ?_⟩
  refine ⟨⟨?_⟩, ?_⟩; rotate_left
  refine ⟨⟨o2_ok _⟩, ?_⟩
  subst hv; exact And.intro (by kernel_rfl) (by kernel_rfl)
  all_goals ((try clear hv); (try clear q1 q2); (try clear hk); (first | omega | (exact pick_ok _ _) | (exact pick_ok2 _ _) | (exact pick_ok3 _ _) | ((try simp only [decide_eq_true_eq, decide_eq_false_iff_not, Bool.not_eq_true, Bool.not_eq_false, Bool.and_eq_true, Bool.or_eq_true, Bool.not_not, cond_and, cond_or, List.length_append, List.length_cons, List.length_nil] at *); (first | done | ((first | omega | (intros; (try simp only [Bool.not_not, cond_and, cond_or, Bool.and_eq_true, decide_eq_true_eq] at *); (simp only [copied20, same20, List.nil_append] at *; omega)) | (intros; (try simp only [Bool.not_not, cond_and, cond_or, Bool.and_eq_true, decide_eq_true_eq] at *); (simp only [copied20, List.nil_append]; omega)) | (intros; (try simp only [Bool.not_not, cond_and, cond_or, Bool.and_eq_true, decide_eq_true_eq] at *); (simp only [same20, List.nil_append]; omega)) | (intros; (try simp only [Bool.not_not, cond_and, cond_or, Bool.and_eq_true, decide_eq_true_eq] at *); (simp only [aClone, List.length_cons, List.length_nil] at *; omega)) | (intros; (try simp only [Bool.not_not, cond_and, cond_or, Bool.and_eq_true, decide_eq_true_eq] at *); (decide +kernel)) | (intros; (try simp only [Bool.not_not, cond_and, cond_or, Bool.and_eq_true, decide_eq_true_eq] at *); (simp only [aClone] at *; omega)) | (intros; (try simp only [Bool.not_not, cond_and, cond_or, Bool.and_eq_true, decide_eq_true_eq] at *); (exact band_nn rfl _ _)) | (intros; (try simp only [Bool.not_not, cond_and, cond_or, Bool.and_eq_true, decide_eq_true_eq] at *); (exact (wu64s _).2.1)) | (intros; (try simp only [Bool.not_not, cond_and, cond_or, Bool.and_eq_true, decide_eq_true_eq] at *); (simp only [Bool.or_eq_false_iff, Bool.and_eq_false_iff, decide_eq_false_iff_not, decide_eq_true_eq, bne_iff_ne, beq_iff_eq, bne_eq_false_iff_eq, beq_eq_false_iff_ne, ne_eq, true_and] at *; omega)) | (intros; (try simp only [Bool.not_not, cond_and, cond_or, Bool.and_eq_true, decide_eq_true_eq] at *); (simp only [List.length_drop, List.length_take, List.length_append, List.length_cons, List.length_nil] at *; omega)) | (intros; (try simp only [Bool.not_not, cond_and, cond_or, Bool.and_eq_true, decide_eq_true_eq] at *); (simp_all; omega)) | (intros; (try simp only [Bool.not_not, cond_and, cond_or, Bool.and_eq_true, decide_eq_true_eq] at *); (simp_all [copied20, same20]; omega)) | (intros; omega) | (intros; simp only [Bool.not_not, cond_and, cond_or, Bool.and_eq_true, decide_eq_true_eq] at *; omega) | (intros; simp_all [Bool.not_not]; done)))))))
def acceptAllows.ct : Ct El := ctOf acceptAllows.dec (fun _ => []) (fun x => acceptAllows.res (acceptAllows x.1 x.2.1 x.2.2)) (fun x => acceptAllows.news (acceptAllows x.1 x.2.1 x.2.2))
theorem acceptAllows.ok : CtOk (mkCx Tryd.prog S [] 0) 6 acceptAllows.ct := ct_mk (C := (mkCxI Tryd.prog S tab_lives20 0 true sum_dDel)) (mkCxI_ok sigOk mixed tab_lives20_ok 0 true sum_dDel_ok) acceptAllows.dec_ok (fun x => rfl) 4 (fun x _ => (acceptAllows.nf_ok x.1 x.2.1 x.2.2 _).mpr (acceptAllows.key x.1 x.2.1 x.2.2 _ rfl))
def tab_acceptAllows : List (FuncId × Ct El) := (6, acceptAllows.ct) :: tab_acceptHas
theorem tab_acceptAllows_ok : TabOk Tryd.prog S tab_acceptAllows := ⟨acceptAllows.ok, by kernel_rfl, tab_acceptHas_ok⟩

end Go.Aw.W
