/- Contracts of the seat (printed by ct.py). -/
import Derived.Test.YtcpcakglnckpeaaDoorXW16
set_option linter.unusedVariables false
set_option linter.unusedSimpArgs false
set_option maxRecDepth 20000
set_option maxHeartbeats 1000000
namespace Go.Aw.W
open Go Go.Aw Go.Proofs
attribute [local irreducible] evCode evFun evOps evDs evOne ctxK loopK loopB subC bodyC headS okH roundK

/-! wireless/accept.Remove -/
def accRemove.res (r : (List Address) × Int) : AV El := .tup [.sl 25 (r.1 : List (El 25)) false, .v (.int .i64 (r.2))]
def accRemove.news (r : (List Address) × Int) : List (AObj El) := []
def accRemove (l : List Address) (a : Address) : (List Address) × Int := cond (!aHas l a) ((aClone l, (6 : Int))) ((dDel a (aClone l), (0 : Int)))
def accRemove.dec (cs : List (AV El)) : Option ((List Address) × Address) := popS 25 cs fun a0 c0 => popA Address.dec c0 fun a1 c1 => popE c1 (a0, a1)
def accRemove.enc (x : (List Address) × Address) : List (AV El) := [.sl 25 (x.1 : List (El 25)) false, Address.av x.2]
theorem accRemove.dec_ok : ∀ cs x, accRemove.dec cs = some x → Imp (S := S) cs (accRemove.enc x) := by
  intro cs x h
  unfold accRemove.dec at h
  obtain ⟨a0, c0, h0, k0⟩ := popS_some (S := S) (t := 25) h
  obtain ⟨a1, c1, h1, k1⟩ := popA_some (S := S) Address.dec_ok h0
  obtain ⟨rfl, rfl⟩ := popE_some (S := S) h1
  exact (k0 _ (k1 _ (.refl _)))
def accRemove.nf (l : List Address) (a : Address) (K : AV El → List (AObj El) → Prop) : Prop := cond (!aHas l a) (Ob (List.length l * (16 : Nat) ≤ (140737488355328 : Nat)) ∧ (K (.tup [.gs 1, .v (.int .i64 ((6 : Int)))]) [.cells [.v (.int .i64 (a.Kind)), .v (.int .u64 (a.Bits))], .row 25 (aClone l : List (El 25))])) (Ob (List.length l * (16 : Nat) ≤ (140737488355328 : Nat)) ∧ (Ob (List.length (aClone l) ≤ (4611686018427 : Nat)) ∧ (K (.tup [.sl 25 (dDel a (aClone l) : List (El 25)) false, .v (.int .i64 ((0 : Int)))]) [.cells [.v (.int .i64 (a.Kind)), .v (.int .u64 (a.Bits))], .gone])))
theorem accRemove.nf_ok (l : List Address) (a : Address) (K : AV El → List (AObj El) → Prop) : evFun (mkCxI Tryd.prog S tab_r20Remove 0 true sum_dDel) 4 20 [.sl 25 (l : List (El 25)) false, Address.av a] [] K = accRemove.nf l a K := by kernel_rfl
theorem accRemove.key (l : List Address) (a : Address) (hp : l.length ≤ 4611686018427) (v : (List Address) × Int) (hv : v = accRemove l a) : accRemove.nf l a (fun r' H' => Gives r' H' (accRemove.res v) (accRemove.news v)) := by
  unfold accRemove at hv
  unfold accRemove.nf
  revert hv; refine by_cond2 (fun hb hv => ?_) (fun hb hv => ?_)
  refine ⟨⟨?_⟩, ?_⟩; rotate_left
  subst hv; exact And.intro (by kernel_rfl) (by kernel_rfl)
  refine ⟨⟨?_⟩, ?_⟩; rotate_left
  refine ⟨⟨?_⟩, ?_⟩; rotate_left
  subst hv; exact And.intro (by kernel_rfl) (by kernel_rfl)
  all_goals ((try clear hv); (try clear q1 q2); (try clear hk); (first | omega | ((try simp only [decide_eq_true_eq, decide_eq_false_iff_not, Bool.not_eq_true, Bool.not_eq_false, Bool.and_eq_true, Bool.or_eq_true, Bool.not_not, cond_and, cond_or, List.length_append, List.length_cons, List.length_nil] at *); (first | done | ((first | omega | (intros; (try simp only [Bool.not_not, cond_and, cond_or, Bool.and_eq_true, decide_eq_true_eq] at *); (simp only [aClone] at *; omega)) | (intros; (try simp only [Bool.not_not, cond_and, cond_or, Bool.and_eq_true, decide_eq_true_eq] at *); (exact band_nn rfl _ _)) | (intros; (try simp only [Bool.not_not, cond_and, cond_or, Bool.and_eq_true, decide_eq_true_eq] at *); (exact (wu64s _).2.1)) | (intros; (try simp only [Bool.not_not, cond_and, cond_or, Bool.and_eq_true, decide_eq_true_eq] at *); (simp only [Bool.or_eq_false_iff, Bool.and_eq_false_iff, decide_eq_false_iff_not, decide_eq_true_eq, bne_iff_ne, beq_iff_eq, bne_eq_false_iff_eq, beq_eq_false_iff_ne, ne_eq, true_and] at *; omega)) | (intros; (try simp only [Bool.not_not, cond_and, cond_or, Bool.and_eq_true, decide_eq_true_eq] at *); (simp only [List.length_drop, List.length_take, List.length_append, List.length_cons, List.length_nil] at *; omega)) | (intros; omega) | (intros; simp only [Bool.not_not, cond_and, cond_or, Bool.and_eq_true, decide_eq_true_eq] at *; omega) | (intros; simp_all [Bool.not_not]; done)))))))
def accRemove.ct : Ct El := ctOf accRemove.dec (fun x => [x.1.length ≤ 4611686018427]) (fun x => accRemove.res (accRemove x.1 x.2)) (fun x => accRemove.news (accRemove x.1 x.2))
theorem accRemove.ok : CtOk (mkCx Tryd.prog S [] 0) 20 accRemove.ct := ct_mk (C := (mkCxI Tryd.prog S tab_r20Remove 0 true sum_dDel)) (mkCxI_ok sigOk mixed tab_r20Remove_ok 0 true sum_dDel_ok) accRemove.dec_ok (fun x => rfl) 4 (fun x hp => (accRemove.nf_ok x.1 x.2 _).mpr (accRemove.key x.1 x.2 (hp _ (List.mem_singleton.2 rfl)) _ rfl))
def tab_accRemove : List (FuncId × Ct El) := (20, accRemove.ct) :: tab_r20Remove
theorem tab_accRemove_ok : TabOk Tryd.prog S tab_accRemove := ⟨accRemove.ok, by kernel_rfl, tab_r20Remove_ok⟩

/-! wireless/accept.Allows -/
def accAllows.res (r : Bool) : AV El := .v (.bool (r))
def accAllows.news (r : Bool) : List (AObj El) := []
def accAllows (policy : Int) (request : Int) (l : List Address) (ids : List Identity) (a : Address) : Bool := cond (bif decide (policy < (0 : Int)) then true else decide ((3 : Int) < policy)) (false) (cond (request == (3 : Int)) (bif !bif policy == (3 : Int) then true else policy == (1 : Int) then true else accHas l ids a) (cond (request == (5 : Int)) (bif !bif policy == (3 : Int) then true else policy == (2 : Int) then true else accHas l ids a) (false)))
def accAllows.dec (cs : List (AV El)) : Option (Int × Int × (List Address) × (List Identity) × Address) := popI .i64 cs fun a0 c0 => popI .i64 c0 fun a1 c1 => popS 25 c1 fun a2 c2 => popS 72 c2 fun a3 c3 => popA Address.dec c3 fun a4 c4 => popE c4 (a0, a1, a2, a3, a4)
def accAllows.enc (x : Int × Int × (List Address) × (List Identity) × Address) : List (AV El) := [.v (.int .i64 x.1), .v (.int .i64 x.2.1), .sl 25 (x.2.2.1 : List (El 25)) false, .sl 72 (x.2.2.2.1 : List (El 72)) false, Address.av x.2.2.2.2]
theorem accAllows.dec_ok : ∀ cs x, accAllows.dec cs = some x → Imp (S := S) cs (accAllows.enc x) := by
  intro cs x h
  unfold accAllows.dec at h
  obtain ⟨a0, c0, rfl, h0⟩ := popI_some (S := S) h
  obtain ⟨a1, c1, rfl, h1⟩ := popI_some (S := S) h0
  obtain ⟨a2, c2, h2, k2⟩ := popS_some (S := S) (t := 25) h1
  obtain ⟨a3, c3, h3, k3⟩ := popS_some (S := S) (t := 72) h2
  obtain ⟨a4, c4, h4, k4⟩ := popA_some (S := S) Address.dec_ok h3
  obtain ⟨rfl, rfl⟩ := popE_some (S := S) h4
  exact (.cons (.cons (k2 _ (k3 _ (k4 _ (.refl _))))))
def accAllows.nf (policy : Int) (request : Int) (l : List Address) (ids : List Identity) (a : Address) (K : AV El → List (AObj El) → Prop) : Prop := Ob (o3 (!decide (policy < (0 : Int)))) ∧ (Ob (on (decide (policy < (0 : Int)))) ∧ (cond (bif decide (policy < (0 : Int)) then true else decide ((3 : Int) < policy)) (K (.v (.bool (false))) [.cells [.v (.int .i64 (a.Kind)), .v (.int .u64 (a.Bits))]]) (cond (request == (3 : Int)) (Ob (o3 (!policy == (3 : Int))) ∧ (Ob (on (policy == (3 : Int))) ∧ (Ob (o3 (!!bif policy == (3 : Int) then true else policy == (1 : Int))) ∧ (Ob (o3 (!!bif policy == (3 : Int) then true else policy == (1 : Int))) ∧ (Ob (o3 (!!bif policy == (3 : Int) then true else policy == (1 : Int))) ∧ (Ob (on (!bif policy == (3 : Int) then true else policy == (1 : Int))) ∧ (K (.v (.bool (bif !bif policy == (3 : Int) then true else policy == (1 : Int) then true else accHas l ids a))) [.cells [.v (.int .i64 (a.Kind)), .v (.int .u64 (a.Bits))]]))))))) (cond (request == (5 : Int)) (Ob (o3 (!policy == (3 : Int))) ∧ (Ob (on (policy == (3 : Int))) ∧ (Ob (o3 (!!bif policy == (3 : Int) then true else policy == (2 : Int))) ∧ (Ob (o3 (!!bif policy == (3 : Int) then true else policy == (2 : Int))) ∧ (Ob (o3 (!!bif policy == (3 : Int) then true else policy == (2 : Int))) ∧ (Ob (on (!bif policy == (3 : Int) then true else policy == (2 : Int))) ∧ (K (.v (.bool (bif !bif policy == (3 : Int) then true else policy == (2 : Int) then true else accHas l ids a))) [.cells [.v (.int .i64 (a.Kind)), .v (.int .u64 (a.Bits))]]))))))) (K (.v (.bool (false))) [.cells [.v (.int .i64 (a.Kind)), .v (.int .u64 (a.Bits))]])))))
theorem accAllows.nf_ok (policy : Int) (request : Int) (l : List Address) (ids : List Identity) (a : Address) (K : AV El → List (AObj El) → Prop) : evFun (mkCxI Tryd.prog S tab_r20Remove 0 true sum_dDel) 4 25 [.v (.int .i64 policy), .v (.int .i64 request), .sl 25 (l : List (El 25)) false, .sl 72 (ids : List (El 72)) false, Address.av a] [] K = accAllows.nf policy request l ids a K := by kernel_rfl
theorem accAllows.key (policy : Int) (request : Int) (l : List Address) (ids : List Identity) (a : Address) (v : Bool) (hv : v = accAllows policy request l ids a) : accAllows.nf policy request l ids a (fun r' H' => Gives r' H' (accAllows.res v) (accAllows.news v)) := by
  unfold accAllows at hv
  unfold accAllows.nf
  refine ⟨⟨o3_ok _⟩, ?_⟩
  refine ⟨⟨on_ok _⟩, ?_⟩
  revert hv; refine by_cond2 (fun hb hv => ?_) (fun hb hv => ?_)
  · subst hv; exact And.intro (by kernel_rfl) (by kernel_rfl)
  · revert hv; refine by_cond2 (fun hb hv => ?_) (fun hb hv => ?_)
    · refine ⟨⟨o3_ok _⟩, ?_⟩
      refine ⟨⟨on_ok _⟩, ?_⟩
      refine ⟨⟨o3_ok _⟩, ?_⟩
      refine ⟨⟨o3_ok _⟩, ?_⟩
      refine ⟨⟨o3_ok _⟩, ?_⟩
      refine ⟨⟨on_ok _⟩, ?_⟩
      subst hv; exact And.intro (by kernel_rfl) (by kernel_rfl)
    · revert hv; refine by_cond2 (fun hb hv => ?_) (fun hb hv => ?_)
      · refine ⟨⟨o3_ok _⟩, ?_⟩
        refine ⟨⟨on_ok _⟩, ?_⟩
        refine ⟨⟨o3_ok _⟩, ?_⟩
        refine ⟨⟨o3_ok _⟩, ?_⟩
        refine ⟨⟨o3_ok _⟩, ?_⟩
        refine ⟨⟨on_ok _⟩, ?_⟩
        subst hv; exact And.intro (by kernel_rfl) (by kernel_rfl)
      · subst hv; exact And.intro (by kernel_rfl) (by kernel_rfl)
def accAllows.ct : Ct El := ctOf accAllows.dec (fun _ => []) (fun x => accAllows.res (accAllows x.1 x.2.1 x.2.2.1 x.2.2.2.1 x.2.2.2.2)) (fun x => accAllows.news (accAllows x.1 x.2.1 x.2.2.1 x.2.2.2.1 x.2.2.2.2))
theorem accAllows.ok : CtOk (mkCx Tryd.prog S [] 0) 25 accAllows.ct := ct_mk (C := (mkCxI Tryd.prog S tab_r20Remove 0 true sum_dDel)) (mkCxI_ok sigOk mixed tab_r20Remove_ok 0 true sum_dDel_ok) accAllows.dec_ok (fun x => rfl) 4 (fun x _ => (accAllows.nf_ok x.1 x.2.1 x.2.2.1 x.2.2.2.1 x.2.2.2.2 _).mpr (accAllows.key x.1 x.2.1 x.2.2.1 x.2.2.2.1 x.2.2.2.2 _ rfl))
def tab_accAllows : List (FuncId × Ct El) := (25, accAllows.ct) :: tab_accRemove
theorem tab_accAllows_ok : TabOk Tryd.prog S tab_accAllows := ⟨accAllows.ok, by kernel_rfl, tab_accRemove_ok⟩

/-! wireless/wirelessref20.Allows -/
def r20Allows.res (r : Bool) : AV El := .v (.bool (r))
def r20Allows.news (r : Bool) : List (AObj El) := []
def r20Allows (policy : Int) (request : Int) (l : List Address) (ids : List Identity) (a : Address) : Bool := cond (bif decide (policy < (0 : Int)) then true else decide ((3 : Int) < policy)) (false) (cond (request == (3 : Int)) (bif bif policy == (0 : Int) then true else policy == (2 : Int) then true else r20Has l ids a) (cond (request == (5 : Int)) (bif bif policy == (0 : Int) then true else policy == (1 : Int) then true else r20Has l ids a) (false)))
def r20Allows.dec (cs : List (AV El)) : Option (Int × Int × (List Address) × (List Identity) × Address) := popI .i64 cs fun a0 c0 => popI .i64 c0 fun a1 c1 => popS 25 c1 fun a2 c2 => popS 72 c2 fun a3 c3 => popA Address.dec c3 fun a4 c4 => popE c4 (a0, a1, a2, a3, a4)
def r20Allows.enc (x : Int × Int × (List Address) × (List Identity) × Address) : List (AV El) := [.v (.int .i64 x.1), .v (.int .i64 x.2.1), .sl 25 (x.2.2.1 : List (El 25)) false, .sl 72 (x.2.2.2.1 : List (El 72)) false, Address.av x.2.2.2.2]
theorem r20Allows.dec_ok : ∀ cs x, r20Allows.dec cs = some x → Imp (S := S) cs (r20Allows.enc x) := by
  intro cs x h
  unfold r20Allows.dec at h
  obtain ⟨a0, c0, rfl, h0⟩ := popI_some (S := S) h
  obtain ⟨a1, c1, rfl, h1⟩ := popI_some (S := S) h0
  obtain ⟨a2, c2, h2, k2⟩ := popS_some (S := S) (t := 25) h1
  obtain ⟨a3, c3, h3, k3⟩ := popS_some (S := S) (t := 72) h2
  obtain ⟨a4, c4, h4, k4⟩ := popA_some (S := S) Address.dec_ok h3
  obtain ⟨rfl, rfl⟩ := popE_some (S := S) h4
  exact (.cons (.cons (k2 _ (k3 _ (k4 _ (.refl _))))))
def r20Allows.nf (policy : Int) (request : Int) (l : List Address) (ids : List Identity) (a : Address) (K : AV El → List (AObj El) → Prop) : Prop := Ob (o3 (!decide (policy < (0 : Int)))) ∧ (Ob (on (decide (policy < (0 : Int)))) ∧ (cond (bif decide (policy < (0 : Int)) then true else decide ((3 : Int) < policy)) (K (.v (.bool (false))) [.cells [.v (.int .i64 (a.Kind)), .v (.int .u64 (a.Bits))]]) (cond (request == (3 : Int)) (Ob (o3 (!policy == (0 : Int))) ∧ (Ob (on (policy == (0 : Int))) ∧ (Ob (o3 (!bif policy == (0 : Int) then true else policy == (2 : Int))) ∧ (Ob (o3 (!bif policy == (0 : Int) then true else policy == (2 : Int))) ∧ (Ob (o3 (!bif policy == (0 : Int) then true else policy == (2 : Int))) ∧ (Ob (on (bif policy == (0 : Int) then true else policy == (2 : Int))) ∧ (K (.v (.bool (bif bif policy == (0 : Int) then true else policy == (2 : Int) then true else r20Has l ids a))) [.cells [.v (.int .i64 (a.Kind)), .v (.int .u64 (a.Bits))]]))))))) (cond (request == (5 : Int)) (Ob (o3 (!policy == (0 : Int))) ∧ (Ob (on (policy == (0 : Int))) ∧ (Ob (o3 (!bif policy == (0 : Int) then true else policy == (1 : Int))) ∧ (Ob (o3 (!bif policy == (0 : Int) then true else policy == (1 : Int))) ∧ (Ob (o3 (!bif policy == (0 : Int) then true else policy == (1 : Int))) ∧ (Ob (on (bif policy == (0 : Int) then true else policy == (1 : Int))) ∧ (K (.v (.bool (bif bif policy == (0 : Int) then true else policy == (1 : Int) then true else r20Has l ids a))) [.cells [.v (.int .i64 (a.Kind)), .v (.int .u64 (a.Bits))]]))))))) (K (.v (.bool (false))) [.cells [.v (.int .i64 (a.Kind)), .v (.int .u64 (a.Bits))]])))))
theorem r20Allows.nf_ok (policy : Int) (request : Int) (l : List Address) (ids : List Identity) (a : Address) (K : AV El → List (AObj El) → Prop) : evFun (mkCxI Tryd.prog S tab_r20Remove 0 true sum_dDel) 4 26 [.v (.int .i64 policy), .v (.int .i64 request), .sl 25 (l : List (El 25)) false, .sl 72 (ids : List (El 72)) false, Address.av a] [] K = r20Allows.nf policy request l ids a K := by kernel_rfl
theorem r20Allows.key (policy : Int) (request : Int) (l : List Address) (ids : List Identity) (a : Address) (v : Bool) (hv : v = r20Allows policy request l ids a) : r20Allows.nf policy request l ids a (fun r' H' => Gives r' H' (r20Allows.res v) (r20Allows.news v)) := by
  unfold r20Allows at hv
  unfold r20Allows.nf
  refine ⟨⟨o3_ok _⟩, ?_⟩
  refine ⟨⟨on_ok _⟩, ?_⟩
  revert hv; refine by_cond2 (fun hb hv => ?_) (fun hb hv => ?_)
  · subst hv; exact And.intro (by kernel_rfl) (by kernel_rfl)
  · revert hv; refine by_cond2 (fun hb hv => ?_) (fun hb hv => ?_)
    · refine ⟨⟨o3_ok _⟩, ?_⟩
      refine ⟨⟨on_ok _⟩, ?_⟩
      refine ⟨⟨o3_ok _⟩, ?_⟩
      refine ⟨⟨o3_ok _⟩, ?_⟩
      refine ⟨⟨o3_ok _⟩, ?_⟩
      refine ⟨⟨on_ok _⟩, ?_⟩
      subst hv; exact And.intro (by kernel_rfl) (by kernel_rfl)
    · revert hv; refine by_cond2 (fun hb hv => ?_) (fun hb hv => ?_)
      · refine ⟨⟨o3_ok _⟩, ?_⟩
        refine ⟨⟨on_ok _⟩, ?_⟩
        refine ⟨⟨o3_ok _⟩, ?_⟩
        refine ⟨⟨o3_ok _⟩, ?_⟩
        refine ⟨⟨o3_ok _⟩, ?_⟩
        refine ⟨⟨on_ok _⟩, ?_⟩
        subst hv; exact And.intro (by kernel_rfl) (by kernel_rfl)
      · subst hv; exact And.intro (by kernel_rfl) (by kernel_rfl)
def r20Allows.ct : Ct El := ctOf r20Allows.dec (fun _ => []) (fun x => r20Allows.res (r20Allows x.1 x.2.1 x.2.2.1 x.2.2.2.1 x.2.2.2.2)) (fun x => r20Allows.news (r20Allows x.1 x.2.1 x.2.2.1 x.2.2.2.1 x.2.2.2.2))
theorem r20Allows.ok : CtOk (mkCx Tryd.prog S [] 0) 26 r20Allows.ct := ct_mk (C := (mkCxI Tryd.prog S tab_r20Remove 0 true sum_dDel)) (mkCxI_ok sigOk mixed tab_r20Remove_ok 0 true sum_dDel_ok) r20Allows.dec_ok (fun x => rfl) 4 (fun x _ => (r20Allows.nf_ok x.1 x.2.1 x.2.2.1 x.2.2.2.1 x.2.2.2.2 _).mpr (r20Allows.key x.1 x.2.1 x.2.2.1 x.2.2.2.1 x.2.2.2.2 _ rfl))
def tab_r20Allows : List (FuncId × Ct El) := (26, r20Allows.ct) :: tab_accAllows
theorem tab_r20Allows_ok : TabOk Tryd.prog S tab_r20Allows := ⟨r20Allows.ok, by kernel_rfl, tab_accAllows_ok⟩

end Go.Aw.W
