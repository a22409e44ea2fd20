/- Contracts of the seat (printed by ct.py). -/
import Derived.Test.YtcpcakglnckpeaaDoorXW12
set_option linter.unusedVariables false
set_option linter.unusedSimpArgs false
set_option maxRecDepth 20000
set_option maxHeartbeats 1000000
namespace Go.Aw.W
open Go Go.Aw Go.Proofs
attribute [local irreducible] evCode evFun evOps evDs evOne ctxK loopK loopB subC bodyC headS okH roundK

theorem fIdx_lt (list : List Identity) (a : Address) : ∀ (n : Nat) (i : Int), (0 < (list.length : Int) ∨ (0 < n ∧ (list.length : Int) ≤ i)) → fIdx.go list a n i < list.length
  | 0, i, h => by show (0 : Int) < _; omega
  | n + 1, i, h => by
    unfold fIdx.go
    by_cases hi : i < list.length
    · rw [decide_eq_true hi, cond_true]
      generalize (bif (List.getD list (Int.toNat i) Identity.zero).Address.Kind == a.Kind && (List.getD list (Int.toNat i) Identity.zero).Address.Bits == a.Bits then true else pResolves (List.getD list (Int.toNat i) Identity.zero).IRK a) = m
      cases m
      · exact fIdx_lt list a n _ (by omega)
      · exact hi
    · rw [decide_eq_false hi, cond_false]; omega
theorem r9Find_lt0 (list : List Identity) (a : Address) : ∀ (n : Nat) (i : Int), (0 < (list.length : Int) ∨ (0 < n ∧ (list.length : Int) ≤ i)) → r9Find.go list a n i < list.length
  | 0, i, h => by show (0 : Int) < _; omega
  | n + 1, i, h => by
    unfold r9Find.go
    by_cases hi : i < list.length
    · rw [decide_eq_true hi, cond_true]
      generalize (bif (List.getD list (Int.toNat i) Identity.zero).Address.Kind == a.Kind && (List.getD list (Int.toNat i) Identity.zero).Address.Bits == a.Bits then true else r9Resolves (List.getD list (Int.toNat i) Identity.zero).IRK a) = m
      cases m
      · exact r9Find_lt0 list a n _ (by omega)
      · exact hi
    · rw [decide_eq_false hi, cond_false]; omega
theorem pFind_lt (list : List Identity) (a : Address) : pFind list a < list.length := by
  unfold pFind fIdx
  cases aCheck a != (0 : Int)
  · exact fIdx_lt list a _ _ (by omega)
  · show (-1 : Int) < _; omega
theorem r9Find_lt (list : List Identity) (a : Address) : r9Find list a < list.length := by
  unfold r9Find
  cases r8Check a != (0 : Int)
  · exact r9Find_lt0 list a _ _ (by omega)
  · show (-1 : Int) < _; omega

/-! wireless/accept.Add -/
def accAdd.res (r : (List Address) × Int) : AV El := .tup [.gs 0, .v (.int .i64 (r.2))]
def accAdd.news (r : (List Address) × Int) : List (AObj El) := [.row 25 (r.1 : List (El 25))]
def accAdd (l : List Address) (a : Address) : (List Address) × Int := cond (aCheck a != (0 : Int)) ((aClone l, aCheck a)) (cond (aHas l a) ((aClone l, (7 : Int))) (cond (decide ((64 : Int) ≤ (↑(List.length l) : Int))) ((aClone l, (8 : Int))) ((aClone l ++ [a], (0 : Int)))))
def accAdd.dec (cs : List (AV El)) : Option ((List Address) × Address) := popS 25 cs fun a0 c0 => popA Address.dec c0 fun a1 c1 => popE c1 (a0, a1)
def accAdd.enc (x : (List Address) × Address) : List (AV El) := [.sl 25 (x.1 : List (El 25)) false, Address.av x.2]
theorem accAdd.dec_ok : ∀ cs x, accAdd.dec cs = some x → Imp (S := S) cs (accAdd.enc x) := by
  intro cs x h
  unfold accAdd.dec at h
  obtain ⟨a0, c0, h0, k0⟩ := popS_some (S := S) (t := 25) h
  obtain ⟨a1, c1, h1, k1⟩ := popA_some (S := S) Address.dec_ok h0
  obtain ⟨rfl, rfl⟩ := popE_some (S := S) h1
  exact (k0 _ (k1 _ (.refl _)))
def accAdd.nf (l : List Address) (a : Address) (K : AV El → List (AObj El) → Prop) : Prop := Ob (List.length l * (16 : Nat) ≤ (140737488355328 : Nat)) ∧ (cond (aCheck a != (0 : Int)) (K (.tup [.gs 1, .v (.int .i64 (aCheck a))]) [.cells [.v (.int .i64 (a.Kind)), .v (.int .u64 (a.Bits))], .row 25 (aClone l : List (El 25))]) (cond (aHas l a) (K (.tup [.gs 1, .v (.int .i64 ((7 : Int)))]) [.cells [.v (.int .i64 (a.Kind)), .v (.int .u64 (a.Bits))], .row 25 (aClone l : List (El 25))]) ((List.length l ≤ (9223372036854775807 : Nat)) → (cond (decide ((64 : Int) ≤ (↑(List.length l) : Int))) (K (.tup [.gs 1, .v (.int .i64 ((8 : Int)))]) [.cells [.v (.int .i64 (a.Kind)), .v (.int .u64 (a.Bits))], .row 25 (aClone l : List (El 25))]) (Ob ((List.length (aClone l) + List.length [a]) * (16 : Nat) ≤ (140737488355328 : Nat)) ∧ (K (.tup [.gs 3, .v (.int .i64 ((0 : Int)))]) [.cells [.v (.int .i64 (a.Kind)), .v (.int .u64 (a.Bits))], .gone, .row 25 ([a] : List (El 25)), .row 25 (aClone l ++ [a] : List (El 25))]))))))
theorem accAdd.nf_ok (l : List Address) (a : Address) (K : AV El → List (AObj El) → Prop) : evFun (mkCxI Tryd.prog S tab_aClone 0 false sum_fIdx) 4 16 [.sl 25 (l : List (El 25)) false, Address.av a] [] K = accAdd.nf l a K := by kernel_rfl
theorem accAdd.key (l : List Address) (a : Address) (hp : l.length ≤ 4611686018427) (v : (List Address) × Int) (hv : v = accAdd l a) : accAdd.nf l a (fun r' H' => Gives r' H' (accAdd.res v) (accAdd.news v)) := by
  unfold accAdd at hv
  unfold accAdd.nf
  refine ⟨⟨?_⟩, ?_⟩; rotate_left
  revert hv; refine by_cond2 (fun hb hv => ?_) (fun hb hv => ?_)
  subst hv; exact And.intro (by kernel_rfl) (by kernel_rfl)
  revert hv; refine by_cond2 (fun hb hv => ?_) (fun hb hv => ?_)
  subst hv; exact And.intro (by kernel_rfl) (by kernel_rfl)
  intro hlen
  revert hv; refine by_cond2 (fun hb hv => ?_) (fun hb hv => ?_)
  subst hv; exact And.intro (by kernel_rfl) (by kernel_rfl)
  refine ⟨⟨?_⟩, ?_⟩; rotate_left
  subst hv; exact And.intro (by kernel_rfl) (by kernel_rfl)
  all_goals ((try clear hv); (try clear q1 q2); (try clear hk); (first | omega | ((try simp only [decide_eq_true_eq, decide_eq_false_iff_not, Bool.not_eq_true, Bool.not_eq_false, Bool.and_eq_true, Bool.or_eq_true, Bool.not_not, cond_and, cond_or, List.length_append, List.length_cons, List.length_nil] at *); (first | done | ((first | omega | (intros; (try simp only [Bool.not_not, cond_and, cond_or, Bool.and_eq_true, decide_eq_true_eq] at *); (have hf := pFind_lt ids a; omega)) | (intros; (try simp only [Bool.not_not, cond_and, cond_or, Bool.and_eq_true, decide_eq_true_eq] at *); (have hf := r9Find_lt ids a; omega)) | (intros; (try simp only [Bool.not_not, cond_and, cond_or, Bool.and_eq_true, decide_eq_true_eq] at *); (simp only [aClone, List.length_cons, List.length_nil] at *; omega)) | (intros; (try simp only [Bool.not_not, cond_and, cond_or, Bool.and_eq_true, decide_eq_true_eq] at *); (exact ⟨by decide, by simp⟩)) | (intros; (try simp only [Bool.not_not, cond_and, cond_or, Bool.and_eq_true, decide_eq_true_eq] at *); (exact pDerive_len _ _ (by omega) (by omega))) | (intros; (try simp only [Bool.not_not, cond_and, cond_or, Bool.and_eq_true, decide_eq_true_eq] at *); (exact pDerive_len2 _ _ (by omega) (by omega))) | (intros; (try simp only [Bool.not_not, cond_and, cond_or, Bool.and_eq_true, decide_eq_true_eq] at *); (exact band_nn rfl _ _)) | (intros; (try simp only [Bool.not_not, cond_and, cond_or, Bool.and_eq_true, decide_eq_true_eq] at *); (exact (wu64s _).2.1)) | (intros; (try simp only [Bool.not_not, cond_and, cond_or, Bool.and_eq_true, decide_eq_true_eq] at *); (simp only [Bool.or_eq_false_iff, Bool.and_eq_false_iff, decide_eq_false_iff_not, decide_eq_true_eq, bne_iff_ne, beq_iff_eq, bne_eq_false_iff_eq, beq_eq_false_iff_ne, ne_eq, true_and] at *; omega)) | (intros; (try simp only [Bool.not_not, cond_and, cond_or, Bool.and_eq_true, decide_eq_true_eq] at *); (simp only [List.length_drop, List.length_take, List.length_append, List.length_cons, List.length_nil] at *; omega)) | (intros; omega) | (intros; simp only [sized_iff, Bool.not_not, cond_and, cond_or, Bool.and_eq_true, decide_eq_true_eq] at *; omega) | (intros; simp_all [sized_iff, Bool.not_not]; done)))))))
def accAdd.ct : Ct El := ctOf accAdd.dec (fun x => [x.1.length ≤ 4611686018427]) (fun x => accAdd.res (accAdd x.1 x.2)) (fun x => accAdd.news (accAdd x.1 x.2))
theorem accAdd.ok : CtOk (mkCx Tryd.prog S [] 0) 16 accAdd.ct := ct_mk (C := (mkCxI Tryd.prog S tab_aClone 0 false sum_fIdx)) (mkCxI_ok sigOk mixed tab_aClone_ok 0 false sum_fIdx_ok) accAdd.dec_ok (fun x => rfl) 4 (fun x hp => (accAdd.nf_ok x.1 x.2 _).mpr (accAdd.key x.1 x.2 (hp _ (List.mem_singleton.2 rfl)) _ rfl))
def tab_accAdd : List (FuncId × Ct El) := (16, accAdd.ct) :: tab_aClone
theorem tab_accAdd_ok : TabOk Tryd.prog S tab_accAdd := ⟨accAdd.ok, by kernel_rfl, tab_aClone_ok⟩

/-! wireless/wirelessref20.Add -/
def r20Add.res (r : (List Address) × Int) : AV El := .tup [.gs 0, .v (.int .i64 (r.2))]
def r20Add.news (r : (List Address) × Int) : List (AObj El) := [.row 25 (r.1 : List (El 25))]
def r20Add (l : List Address) (a : Address) : (List Address) × Int := cond (r8Check a != (0 : Int)) (([] ++ l, r8Check a)) (cond (r20Element l a) (([] ++ l, (7 : Int))) (cond (decide ((64 : Int) ≤ (↑(List.length l) : Int))) (([] ++ l, (8 : Int))) (([] ++ l ++ [a], (0 : Int)))))
def r20Add.dec (cs : List (AV El)) : Option ((List Address) × Address) := popS 25 cs fun a0 c0 => popA Address.dec c0 fun a1 c1 => popE c1 (a0, a1)
def r20Add.enc (x : (List Address) × Address) : List (AV El) := [.sl 25 (x.1 : List (El 25)) false, Address.av x.2]
theorem r20Add.dec_ok : ∀ cs x, r20Add.dec cs = some x → Imp (S := S) cs (r20Add.enc x) := by
  intro cs x h
  unfold r20Add.dec at h
  obtain ⟨a0, c0, h0, k0⟩ := popS_some (S := S) (t := 25) h
  obtain ⟨a1, c1, h1, k1⟩ := popA_some (S := S) Address.dec_ok h0
  obtain ⟨rfl, rfl⟩ := popE_some (S := S) h1
  exact (k0 _ (k1 _ (.refl _)))
def r20Add.nf (l : List Address) (a : Address) (K : AV El → List (AObj El) → Prop) : Prop := Ob (((0 : Nat) + List.length l) * (16 : Nat) ≤ (140737488355328 : Nat)) ∧ (cond (r8Check a != (0 : Int)) (K (.tup [.gs 2, .v (.int .i64 (r8Check a))]) [.cells [.v (.int .i64 (a.Kind)), .v (.int .u64 (a.Bits))], .gone, .row 25 ([] ++ l : List (El 25))]) (cond (r20Element l a) (K (.tup [.gs 2, .v (.int .i64 ((7 : Int)))]) [.cells [.v (.int .i64 (a.Kind)), .v (.int .u64 (a.Bits))], .gone, .row 25 ([] ++ l : List (El 25))]) ((List.length l ≤ (9223372036854775807 : Nat)) → (cond (decide ((64 : Int) ≤ (↑(List.length l) : Int))) (K (.tup [.gs 2, .v (.int .i64 ((8 : Int)))]) [.cells [.v (.int .i64 (a.Kind)), .v (.int .u64 (a.Bits))], .gone, .row 25 ([] ++ l : List (El 25))]) (Ob ((List.length ([] ++ l) + List.length [a]) * (16 : Nat) ≤ (140737488355328 : Nat)) ∧ (K (.tup [.gs 4, .v (.int .i64 ((0 : Int)))]) [.cells [.v (.int .i64 (a.Kind)), .v (.int .u64 (a.Bits))], .gone, .gone, .row 25 ([a] : List (El 25)), .row 25 ([] ++ l ++ [a] : List (El 25))]))))))
theorem r20Add.nf_ok (l : List Address) (a : Address) (K : AV El → List (AObj El) → Prop) : evFun (mkCxI Tryd.prog S tab_aClone 0 false sum_fIdx) 4 18 [.sl 25 (l : List (El 25)) false, Address.av a] [] K = r20Add.nf l a K := by kernel_rfl
theorem r20Add.key (l : List Address) (a : Address) (hp : l.length ≤ 4611686018427) (v : (List Address) × Int) (hv : v = r20Add l a) : r20Add.nf l a (fun r' H' => Gives r' H' (r20Add.res v) (r20Add.news v)) := by
  unfold r20Add at hv
  unfold r20Add.nf
  refine ⟨⟨?_⟩, ?_⟩; rotate_left
  revert hv; refine by_cond2 (fun hb hv => ?_) (fun hb hv => ?_)
  subst hv; exact And.intro (by kernel_rfl) (by kernel_rfl)
  revert hv; refine by_cond2 (fun hb hv => ?_) (fun hb hv => ?_)
  subst hv; exact And.intro (by kernel_rfl) (by kernel_rfl)
  intro hlen
  revert hv; refine by_cond2 (fun hb hv => ?_) (fun hb hv => ?_)
  subst hv; exact And.intro (by kernel_rfl) (by kernel_rfl)
  refine ⟨⟨?_⟩, ?_⟩; rotate_left
  subst hv; exact And.intro (by kernel_rfl) (by kernel_rfl)
  all_goals ((try clear hv); (try clear q1 q2); (try clear hk); (first | omega | ((try simp only [decide_eq_true_eq, decide_eq_false_iff_not, Bool.not_eq_true, Bool.not_eq_false, Bool.and_eq_true, Bool.or_eq_true, Bool.not_not, cond_and, cond_or, List.length_append, List.length_cons, List.length_nil] at *); (first | done | ((first | omega | (intros; (try simp only [Bool.not_not, cond_and, cond_or, Bool.and_eq_true, decide_eq_true_eq] at *); (have hf := pFind_lt ids a; omega)) | (intros; (try simp only [Bool.not_not, cond_and, cond_or, Bool.and_eq_true, decide_eq_true_eq] at *); (have hf := r9Find_lt ids a; omega)) | (intros; (try simp only [Bool.not_not, cond_and, cond_or, Bool.and_eq_true, decide_eq_true_eq] at *); (simp only [aClone, List.length_cons, List.length_nil] at *; omega)) | (intros; (try simp only [Bool.not_not, cond_and, cond_or, Bool.and_eq_true, decide_eq_true_eq] at *); (exact ⟨by decide, by simp⟩)) | (intros; (try simp only [Bool.not_not, cond_and, cond_or, Bool.and_eq_true, decide_eq_true_eq] at *); (exact pDerive_len _ _ (by omega) (by omega))) | (intros; (try simp only [Bool.not_not, cond_and, cond_or, Bool.and_eq_true, decide_eq_true_eq] at *); (exact pDerive_len2 _ _ (by omega) (by omega))) | (intros; (try simp only [Bool.not_not, cond_and, cond_or, Bool.and_eq_true, decide_eq_true_eq] at *); (exact band_nn rfl _ _)) | (intros; (try simp only [Bool.not_not, cond_and, cond_or, Bool.and_eq_true, decide_eq_true_eq] at *); (exact (wu64s _).2.1)) | (intros; (try simp only [Bool.not_not, cond_and, cond_or, Bool.and_eq_true, decide_eq_true_eq] at *); (simp only [Bool.or_eq_false_iff, Bool.and_eq_false_iff, decide_eq_false_iff_not, decide_eq_true_eq, bne_iff_ne, beq_iff_eq, bne_eq_false_iff_eq, beq_eq_false_iff_ne, ne_eq, true_and] at *; omega)) | (intros; (try simp only [Bool.not_not, cond_and, cond_or, Bool.and_eq_true, decide_eq_true_eq] at *); (simp only [List.length_drop, List.length_take, List.length_append, List.length_cons, List.length_nil] at *; omega)) | (intros; omega) | (intros; simp only [sized_iff, Bool.not_not, cond_and, cond_or, Bool.and_eq_true, decide_eq_true_eq] at *; omega) | (intros; simp_all [sized_iff, Bool.not_not]; done)))))))
def r20Add.ct : Ct El := ctOf r20Add.dec (fun x => [x.1.length ≤ 4611686018427]) (fun x => r20Add.res (r20Add x.1 x.2)) (fun x => r20Add.news (r20Add x.1 x.2))
theorem r20Add.ok : CtOk (mkCx Tryd.prog S [] 0) 18 r20Add.ct := ct_mk (C := (mkCxI Tryd.prog S tab_aClone 0 false sum_fIdx)) (mkCxI_ok sigOk mixed tab_aClone_ok 0 false sum_fIdx_ok) r20Add.dec_ok (fun x => rfl) 4 (fun x hp => (r20Add.nf_ok x.1 x.2 _).mpr (r20Add.key x.1 x.2 (hp _ (List.mem_singleton.2 rfl)) _ rfl))
def tab_r20Add : List (FuncId × Ct El) := (18, r20Add.ct) :: tab_accAdd
theorem tab_r20Add_ok : TabOk Tryd.prog S tab_r20Add := ⟨r20Add.ok, by kernel_rfl, tab_accAdd_ok⟩

/-! wireless/accept.Has -/
def accHas.res (r : Bool) : AV El := .v (.bool (r))
def accHas.news (r : Bool) : List (AObj El) := []
def accHas (l : List Address) (ids : List Identity) (a : Address) : Bool := cond (aHas l a) (true) (bif decide ((0 : Int) ≤ pFind ids a) then aHas l (List.getD ids (Int.toNat (pFind ids a)) Identity.zero).Address else false)
def accHas.dec (cs : List (AV El)) : Option ((List Address) × (List Identity) × Address) := popS 25 cs fun a0 c0 => popS 72 c0 fun a1 c1 => popA Address.dec c1 fun a2 c2 => popE c2 (a0, a1, a2)
def accHas.enc (x : (List Address) × (List Identity) × Address) : List (AV El) := [.sl 25 (x.1 : List (El 25)) false, .sl 72 (x.2.1 : List (El 72)) false, Address.av x.2.2]
theorem accHas.dec_ok : ∀ cs x, accHas.dec cs = some x → Imp (S := S) cs (accHas.enc x) := by
  intro cs x h
  unfold accHas.dec at h
  obtain ⟨a0, c0, h0, k0⟩ := popS_some (S := S) (t := 25) h
  obtain ⟨a1, c1, h1, k1⟩ := popS_some (S := S) (t := 72) h0
  obtain ⟨a2, c2, h2, k2⟩ := popA_some (S := S) Address.dec_ok h1
  obtain ⟨rfl, rfl⟩ := popE_some (S := S) h2
  exact (k0 _ (k1 _ (k2 _ (.refl _))))
def accHas.nf (l : List Address) (ids : List Identity) (a : Address) (K : AV El → List (AObj El) → Prop) : Prop := cond (aHas l a) (K (.v (.bool (true))) [.cells [.v (.int .i64 (a.Kind)), .v (.int .u64 (a.Bits))]]) (Ob (o3 (decide ((0 : Int) ≤ pFind ids a))) ∧ (Ob (o3 (decide ((0 : Int) ≤ pFind ids a))) ∧ (Ob (decide ((0 : Int) ≤ pFind ids a) = true → (0 : Int) ≤ pFind ids a ∧ pFind ids a < (↑(List.length ids) : Int)) ∧ (Ob (o3 (decide ((0 : Int) ≤ pFind ids a))) ∧ (Ob (o3 (decide ((0 : Int) ≤ pFind ids a))) ∧ (Ob (o3 (decide ((0 : Int) ≤ pFind ids a))) ∧ (Ob (o3 (decide ((0 : Int) ≤ pFind ids a))) ∧ (Ob (o2 (decide ((0 : Int) ≤ pFind ids a))) ∧ (K (.v (.bool (bif decide ((0 : Int) ≤ pFind ids a) then aHas l (List.getD ids (Int.toNat (pFind ids a)) Identity.zero).Address else false))) [.cells [.v (.int .i64 (a.Kind)), .v (.int .u64 (a.Bits))]])))))))))
theorem accHas.nf_ok (l : List Address) (ids : List Identity) (a : Address) (K : AV El → List (AObj El) → Prop) : evFun (mkCxI Tryd.prog S tab_aClone 0 false sum_fIdx) 4 22 [.sl 25 (l : List (El 25)) false, .sl 72 (ids : List (El 72)) false, Address.av a] [] K = accHas.nf l ids a K := by kernel_rfl
theorem accHas.key (l : List Address) (ids : List Identity) (a : Address) (v : Bool) (hv : v = accHas l ids a) : accHas.nf l ids a (fun r' H' => Gives r' H' (accHas.res v) (accHas.news v)) := by
  unfold accHas at hv
  unfold accHas.nf
  revert hv; refine by_cond2 (fun hb hv => ?_) (fun hb hv => ?_)
  · subst hv; exact And.intro (by kernel_rfl) (by kernel_rfl)
  · refine ⟨⟨o3_ok _⟩, ?_⟩
    refine ⟨⟨o3_ok _⟩, ?_⟩
    refine ⟨⟨by (try clear hv); (try clear q1 q2); (try clear hk); (first | omega | ((try simp only [decide_eq_true_eq, decide_eq_false_iff_not, Bool.not_eq_true, Bool.not_eq_false, Bool.and_eq_true, Bool.or_eq_true, Bool.not_not, cond_and, cond_or, List.length_append, List.length_cons, List.length_nil] at *); (first | done | ((first | omega | (intros; (try simp only [Bool.not_not, cond_and, cond_or, Bool.and_eq_true, decide_eq_true_eq] at *); (have hf := pFind_lt ids a; omega)) | (intros; (try simp only [Bool.not_not, cond_and, cond_or, Bool.and_eq_true, decide_eq_true_eq] at *); (have hf := r9Find_lt ids a; omega)) | (intros; (try simp only [Bool.not_not, cond_and, cond_or, Bool.and_eq_true, decide_eq_true_eq] at *); (simp only [aClone, List.length_cons, List.length_nil] at *; omega)) | (intros; (try simp only [Bool.not_not, cond_and, cond_or, Bool.and_eq_true, decide_eq_true_eq] at *); (exact ⟨by decide, by simp⟩)) | (intros; (try simp only [Bool.not_not, cond_and, cond_or, Bool.and_eq_true, decide_eq_true_eq] at *); (exact pDerive_len _ _ (by omega) (by omega))) | (intros; (try simp only [Bool.not_not, cond_and, cond_or, Bool.and_eq_true, decide_eq_true_eq] at *); (exact pDerive_len2 _ _ (by omega) (by omega))) | (intros; (try simp only [Bool.not_not, cond_and, cond_or, Bool.and_eq_true, decide_eq_true_eq] at *); (exact band_nn rfl _ _)) | (intros; (try simp only [Bool.not_not, cond_and, cond_or, Bool.and_eq_true, decide_eq_true_eq] at *); (exact (wu64s _).2.1)) | (intros; (try simp only [Bool.not_not, cond_and, cond_or, Bool.and_eq_true, decide_eq_true_eq] at *); (simp only [Bool.or_eq_false_iff, Bool.and_eq_false_iff, decide_eq_false_iff_not, decide_eq_true_eq, bne_iff_ne, beq_iff_eq, bne_eq_false_iff_eq, beq_eq_false_iff_ne, ne_eq, true_and] at *; omega)) | (intros; (try simp only [Bool.not_not, cond_and, cond_or, Bool.and_eq_true, decide_eq_true_eq] at *); (simp only [List.length_drop, List.length_take, List.length_append, List.length_cons, List.length_nil] at *; omega)) | (intros; omega) | (intros; simp only [sized_iff, Bool.not_not, cond_and, cond_or, Bool.and_eq_true, decide_eq_true_eq] at *; omega) | (intros; simp_all [sized_iff, Bool.not_not]; done))))))⟩, ?_⟩
    refine ⟨⟨o3_ok _⟩, ?_⟩
    refine ⟨⟨o3_ok _⟩, ?_⟩
    refine ⟨⟨o3_ok _⟩, ?_⟩
    refine ⟨⟨o3_ok _⟩, ?_⟩
    refine ⟨⟨o2_ok _⟩, ?_⟩
    subst hv; exact And.intro (by kernel_rfl) (by kernel_rfl)
def accHas.ct : Ct El := ctOf accHas.dec (fun _ => []) (fun x => accHas.res (accHas x.1 x.2.1 x.2.2)) (fun x => accHas.news (accHas x.1 x.2.1 x.2.2))
theorem accHas.ok : CtOk (mkCx Tryd.prog S [] 0) 22 accHas.ct := ct_mk (C := (mkCxI Tryd.prog S tab_aClone 0 false sum_fIdx)) (mkCxI_ok sigOk mixed tab_aClone_ok 0 false sum_fIdx_ok) accHas.dec_ok (fun x => rfl) 4 (fun x _ => (accHas.nf_ok x.1 x.2.1 x.2.2 _).mpr (accHas.key x.1 x.2.1 x.2.2 _ rfl))
def tab_accHas : List (FuncId × Ct El) := (22, accHas.ct) :: tab_r20Add
theorem tab_accHas_ok : TabOk Tryd.prog S tab_accHas := ⟨accHas.ok, by kernel_rfl, tab_r20Add_ok⟩

/-! wireless/wirelessref20.Has -/
def r20Has.res (r : Bool) : AV El := .v (.bool (r))
def r20Has.news (r : Bool) : List (AObj El) := []
def r20Has (l : List Address) (ids : List Identity) (a : Address) : Bool := cond (r20Element l a) (true) (bif decide ((0 : Int) ≤ r9Find ids a) then r20Element l (List.getD ids (Int.toNat (r9Find ids a)) Identity.zero).Address else false)
def r20Has.dec (cs : List (AV El)) : Option ((List Address) × (List Identity) × Address) := popS 25 cs fun a0 c0 => popS 72 c0 fun a1 c1 => popA Address.dec c1 fun a2 c2 => popE c2 (a0, a1, a2)
def r20Has.enc (x : (List Address) × (List Identity) × Address) : List (AV El) := [.sl 25 (x.1 : List (El 25)) false, .sl 72 (x.2.1 : List (El 72)) false, Address.av x.2.2]
theorem r20Has.dec_ok : ∀ cs x, r20Has.dec cs = some x → Imp (S := S) cs (r20Has.enc x) := by
  intro cs x h
  unfold r20Has.dec at h
  obtain ⟨a0, c0, h0, k0⟩ := popS_some (S := S) (t := 25) h
  obtain ⟨a1, c1, h1, k1⟩ := popS_some (S := S) (t := 72) h0
  obtain ⟨a2, c2, h2, k2⟩ := popA_some (S := S) Address.dec_ok h1
  obtain ⟨rfl, rfl⟩ := popE_some (S := S) h2
  exact (k0 _ (k1 _ (k2 _ (.refl _))))
def r20Has.nf (l : List Address) (ids : List Identity) (a : Address) (K : AV El → List (AObj El) → Prop) : Prop := cond (r20Element l a) (K (.v (.bool (true))) [.cells [.v (.int .i64 (a.Kind)), .v (.int .u64 (a.Bits))]]) (Ob (o3 (decide ((0 : Int) ≤ r9Find ids a))) ∧ (Ob (o3 (decide ((0 : Int) ≤ r9Find ids a))) ∧ (Ob (decide ((0 : Int) ≤ r9Find ids a) = true → (0 : Int) ≤ r9Find ids a ∧ r9Find ids a < (↑(List.length ids) : Int)) ∧ (Ob (o3 (decide ((0 : Int) ≤ r9Find ids a))) ∧ (Ob (o3 (decide ((0 : Int) ≤ r9Find ids a))) ∧ (Ob (o3 (decide ((0 : Int) ≤ r9Find ids a))) ∧ (Ob (o3 (decide ((0 : Int) ≤ r9Find ids a))) ∧ (Ob (o2 (decide ((0 : Int) ≤ r9Find ids a))) ∧ (K (.v (.bool (bif decide ((0 : Int) ≤ r9Find ids a) then r20Element l (List.getD ids (Int.toNat (r9Find ids a)) Identity.zero).Address else false))) [.cells [.v (.int .i64 (a.Kind)), .v (.int .u64 (a.Bits))]])))))))))
theorem r20Has.nf_ok (l : List Address) (ids : List Identity) (a : Address) (K : AV El → List (AObj El) → Prop) : evFun (mkCxI Tryd.prog S tab_aClone 0 false sum_fIdx) 4 24 [.sl 25 (l : List (El 25)) false, .sl 72 (ids : List (El 72)) false, Address.av a] [] K = r20Has.nf l ids a K := by kernel_rfl
theorem r20Has.key (l : List Address) (ids : List Identity) (a : Address) (v : Bool) (hv : v = r20Has l ids a) : r20Has.nf l ids a (fun r' H' => Gives r' H' (r20Has.res v) (r20Has.news v)) := by
  unfold r20Has at hv
  unfold r20Has.nf
  revert hv; refine by_cond2 (fun hb hv => ?_) (fun hb hv => ?_)
  · subst hv; exact And.intro (by kernel_rfl) (by kernel_rfl)
  · refine ⟨⟨o3_ok _⟩, ?_⟩
    refine ⟨⟨o3_ok _⟩, ?_⟩
    refine ⟨⟨by (try clear hv); (try clear q1 q2); (try clear hk); (first | omega | ((try simp only [decide_eq_true_eq, decide_eq_false_iff_not, Bool.not_eq_true, Bool.not_eq_false, Bool.and_eq_true, Bool.or_eq_true, Bool.not_not, cond_and, cond_or, List.length_append, List.length_cons, List.length_nil] at *); (first | done | ((first | omega | (intros; (try simp only [Bool.not_not, cond_and, cond_or, Bool.and_eq_true, decide_eq_true_eq] at *); (have hf := pFind_lt ids a; omega)) | (intros; (try simp only [Bool.not_not, cond_and, cond_or, Bool.and_eq_true, decide_eq_true_eq] at *); (have hf := r9Find_lt ids a; omega)) | (intros; (try simp only [Bool.not_not, cond_and, cond_or, Bool.and_eq_true, decide_eq_true_eq] at *); (simp only [aClone, List.length_cons, List.length_nil] at *; omega)) | (intros; (try simp only [Bool.not_not, cond_and, cond_or, Bool.and_eq_true, decide_eq_true_eq] at *); (exact ⟨by decide, by simp⟩)) | (intros; (try simp only [Bool.not_not, cond_and, cond_or, Bool.and_eq_true, decide_eq_true_eq] at *); (exact pDerive_len _ _ (by omega) (by omega))) | (intros; (try simp only [Bool.not_not, cond_and, cond_or, Bool.and_eq_true, decide_eq_true_eq] at *); (exact pDerive_len2 _ _ (by omega) (by omega))) | (intros; (try simp only [Bool.not_not, cond_and, cond_or, Bool.and_eq_true, decide_eq_true_eq] at *); (exact band_nn rfl _ _)) | (intros; (try simp only [Bool.not_not, cond_and, cond_or, Bool.and_eq_true, decide_eq_true_eq] at *); (exact (wu64s _).2.1)) | (intros; (try simp only [Bool.not_not, cond_and, cond_or, Bool.and_eq_true, decide_eq_true_eq] at *); (simp only [Bool.or_eq_false_iff, Bool.and_eq_false_iff, decide_eq_false_iff_not, decide_eq_true_eq, bne_iff_ne, beq_iff_eq, bne_eq_false_iff_eq, beq_eq_false_iff_ne, ne_eq, true_and] at *; omega)) | (intros; (try simp only [Bool.not_not, cond_and, cond_or, Bool.and_eq_true, decide_eq_true_eq] at *); (simp only [List.length_drop, List.length_take, List.length_append, List.length_cons, List.length_nil] at *; omega)) | (intros; omega) | (intros; simp only [sized_iff, Bool.not_not, cond_and, cond_or, Bool.and_eq_true, decide_eq_true_eq] at *; omega) | (intros; simp_all [sized_iff, Bool.not_not]; done))))))⟩, ?_⟩
    refine ⟨⟨o3_ok _⟩, ?_⟩
    refine ⟨⟨o3_ok _⟩, ?_⟩
    refine ⟨⟨o3_ok _⟩, ?_⟩
    refine ⟨⟨o3_ok _⟩, ?_⟩
    refine ⟨⟨o2_ok _⟩, ?_⟩
    subst hv; exact And.intro (by kernel_rfl) (by kernel_rfl)
def r20Has.ct : Ct El := ctOf r20Has.dec (fun _ => []) (fun x => r20Has.res (r20Has x.1 x.2.1 x.2.2)) (fun x => r20Has.news (r20Has x.1 x.2.1 x.2.2))
theorem r20Has.ok : CtOk (mkCx Tryd.prog S [] 0) 24 r20Has.ct := ct_mk (C := (mkCxI Tryd.prog S tab_aClone 0 false sum_fIdx)) (mkCxI_ok sigOk mixed tab_aClone_ok 0 false sum_fIdx_ok) r20Has.dec_ok (fun x => rfl) 4 (fun x _ => (r20Has.nf_ok x.1 x.2.1 x.2.2 _).mpr (r20Has.key x.1 x.2.1 x.2.2 _ rfl))
def tab_r20Has : List (FuncId × Ct El) := (24, r20Has.ct) :: tab_accHas
theorem tab_r20Has_ok : TabOk Tryd.prog S tab_r20Has := ⟨r20Has.ok, by kernel_rfl, tab_accHas_ok⟩

end Go.Aw.W
