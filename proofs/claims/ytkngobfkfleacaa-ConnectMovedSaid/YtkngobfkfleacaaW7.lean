/- Contracts of the seat (printed by ct.py). -/
import Derived.Test.YtkngobfkfleacaaW6
set_option linter.unusedVariables false
set_option linter.unusedSimpArgs false
set_option maxRecDepth 20000
set_option maxHeartbeats 1000000
namespace Go.Aw.W
open Go Go.Aw Go.Proofs
attribute [local irreducible] evCode evFun evOps evDs evOne ctxK loopK loopB subC bodyC headS okH roundK

/-! wireless/chanmap.Check -/
def kCheck.res (r : Int) : AV El := .v (.int .i64 (r))
def kCheck.news (r : Int) : List (AObj El) := []
def kCheck (m : Int) : Int := cond (bclrK IntKind.u64 m (137438953471 : Int) != (0 : Int)) ((5 : Int)) (cond (decide (kOnes m < (2 : Int))) ((1 : Int)) ((0 : Int)))
def kCheck.dec (cs : List (AV El)) : Option (Int) := popI .u64 cs fun a0 c0 => popE c0 a0
def kCheck.enc (x : Int) : List (AV El) := [.v (.int .u64 x)]
theorem kCheck.dec_ok : ∀ cs x, kCheck.dec cs = some x → Imp (S := S) cs (kCheck.enc x) := by
  intro cs x h
  unfold kCheck.dec at h
  obtain ⟨a0, c0, rfl, h0⟩ := popI_some (S := S) h
  obtain ⟨rfl, rfl⟩ := popE_some (S := S) h0
  exact (.cons (.refl _))
def kCheck.nf (m : Int) (K : AV El → List (AObj El) → Prop) : Prop := cond (bclrK IntKind.u64 m (137438953471 : Int) != (0 : Int)) (K (.v (.int .i64 ((5 : Int)))) []) (cond (decide (kOnes m < (2 : Int))) (K (.v (.int .i64 ((1 : Int)))) []) (K (.v (.int .i64 ((0 : Int)))) []))
theorem kCheck.nf_ok (m : Int) (K : AV El → List (AObj El) → Prop) : evFun (mkCx Try.prog S tab_r2Value 0) 4 38 [.v (.int .u64 m)] [] K = kCheck.nf m K := by kernel_rfl
theorem kCheck.key (m : Int) (v : Int) (hv : v = kCheck m) : kCheck.nf m (fun r' H' => Gives r' H' (kCheck.res v) (kCheck.news v)) := by
  unfold kCheck at hv
  unfold kCheck.nf
  refine by_cond (fun hb hv => ?_) (fun hb hv => ?_) hv
  · subst hv; exact And.intro (by kernel_rfl) (by kernel_rfl)
  · refine by_cond (fun hb hv => ?_) (fun hb hv => ?_) hv
    · subst hv; exact And.intro (by kernel_rfl) (by kernel_rfl)
    · subst hv; exact And.intro (by kernel_rfl) (by kernel_rfl)
def kCheck.ct : Ct El := ctOf kCheck.dec (fun _ => []) (fun x => kCheck.res (kCheck x)) (fun x => kCheck.news (kCheck x))
theorem kCheck.ok : CtOk (mkCx Try.prog S [] 0) 38 kCheck.ct := ct_mk (C := (mkCx Try.prog S tab_r2Value 0)) (mkCx_ok sigOk mixed tab_r2Value_ok 0) kCheck.dec_ok (fun x => rfl) 4 (fun x _ => (kCheck.nf_ok x _).mpr (kCheck.key x _ rfl))
def tab_kCheck : List (FuncId × Ct El) := (38, kCheck.ct) :: tab_r2Value
theorem tab_kCheck_ok : TabOk Try.prog S tab_kCheck := ⟨kCheck.ok, by kernel_rfl, tab_r2Value_ok⟩

/-! wireless/wirelessref12.List -/
def r12List.res (r : (List Int)) : AV El := .gs 0
def r12List.news (r : (List Int)) : List (AObj El) := [.row 3 (r : List (El 3))]
def r12List.go (m : Int) : Nat → Int → (List Int) → (List Int)
  | 0, _, _ => []
  | n0 + 1, i, out => cond (decide (i ≤ (36 : Int))) (cond (r12Has m i) (r12List.go m n0 (IntKind.wrap IntKind.i64 (i + (1 : Int))) (out ++ [i])) (r12List.go m n0 (IntKind.wrap IntKind.i64 (i + (1 : Int))) (out))) (out)
def r12List.hd (m : Int) (i : Int) (out : List Int) : St El := { lo := 0, slots := [(4, .v (.int .i64 (i))), (3, .gs 0), (0, .v (.int .u64 (m)))], n := 18, objs := [.row 3 (out)] }
def r12List.st (m : Int) (i : Int) (out : List Int) (J : St El → Prop) (K : AV El → List (AObj El) → Prop) : Prop := cond (decide (i ≤ (36 : Int))) (cond (r12Has m i) (Ob ((List.length out + List.length [i]) * (8 : Nat) ≤ (140737488355328 : Nat)) ∧ (J (r12List.hd m (IntKind.wrap IntKind.i64 (i + (1 : Int))) (out ++ [i])))) (J (r12List.hd m (IntKind.wrap IntKind.i64 (i + (1 : Int))) (out)))) (K (.gs 0) [.row 3 (out)])
theorem r12List.st_ok (m : Int) (i : Int) (out : List Int) (J : St El → Prop) (K : AV El → List (AObj El) → Prop) : evCode (mkCx Try.prog S tab_kCheck 0) (evFun (mkCx Try.prog S tab_kCheck 0) 3) (loopB Try.prog 69 [true, true, false, true, false]) (r12List.hd m i out) (roundK (C := (mkCx Try.prog S tab_kCheck 0)) [4, 3, 0] [] J (loopK (mkCx Try.prog S tab_kCheck 0) 3 69 [true, true, false, true, false] K)) = r12List.st m i out J K := by kernel_rfl
def r12List.rng (m : Int) (n0 : Nat) (i : Int) (out : List Int) : Prop := 0 ≤ i ∧ i ≤ 37 ∧ (37 - i).toNat < n0 ∧ out.length ≤ i
theorem r12List.lp (m : Int) (v : (List Int)) (n0 : Nat) (i : Int) (out : List Int) (hv : v = r12List.go m n0 i out) (h0 : r12List.rng m n0 i out) (st : St El) (q1 : okH [4, 3, 0] [] st = true) (q2 : headS [4, 3, 0] [] st = r12List.hd m i out) : evCode (mkCx Try.prog S tab_kCheck 0) (evFun (mkCx Try.prog S tab_kCheck 0) 3) (.loop (loopB Try.prog 69 [true, true, false, true, false])) st (loopK (mkCx Try.prog S tab_kCheck 0) 3 69 [true, true, false, true, false] (fun r' H' => Gives r' H' (r12List.res v) (r12List.news v))) := by
  refine loop_ev rfl (evFun_mono _ _) [4, 3, 0] [] (X := Nat × Int × (List Int)) (fun x => r12List.hd m x.2.1 x.2.2) (fun x => x.1) (fun x => r12List.rng m x.1 x.2.1 x.2.2 ∧ v = r12List.go m x.1 x.2.1 x.2.2) (n0, i, out) ⟨q1, q2⟩ ⟨h0, hv⟩ ?_
  clear h0 hv q1 q2
  rintro ⟨n0, i, out⟩ ⟨hr, hv⟩
  dsimp only at hr hv
  cases n0 with
  | zero => exact absurd hr (by unfold r12List.rng; omega)
  | succ n0 =>
  unfold r12List.rng at hr
  unfold r12List.go at hv
  refine (r12List.st_ok m i out _ _).mpr ?_
  unfold r12List.st
  refine by_cond (fun hb hv => ?_) (fun hb hv => ?_) hv
  · refine by_cond (fun hb hv => ?_) (fun hb hv => ?_) hv
    · refine ⟨⟨by (try clear hv); (try clear q1 q2); (try clear hk); (try simp only [decide_eq_true_eq, decide_eq_false_iff_not, Bool.not_eq_true, Bool.not_eq_false, Bool.and_eq_true, Bool.or_eq_true, Bool.not_not, cond_and, cond_or, List.length_append, List.length_cons, List.length_nil] at *); (first | omega | (intros; (try simp only [Bool.not_not, cond_and, cond_or, Bool.and_eq_true, decide_eq_true_eq] at *); exact r1Power_ne (by omega) (by omega)) | (intros; omega) | (intros; simp only [sized_iff, Bool.not_not, cond_and, cond_or, Bool.and_eq_true, decide_eq_true_eq] at *; omega) | (intros; simp_all [sized_iff, Bool.not_not]; done))⟩, ?_⟩
      exact ⟨(n0, (IntKind.wrap IntKind.i64 (i + (1 : Int))), (out ++ [i])), (by kernel_rfl), Nat.lt_succ_self n0, (by dsimp only; unfold r12List.rng; (try clear hv); (try clear q1 q2); (try clear hk); (try simp only [decide_eq_true_eq, decide_eq_false_iff_not, Bool.not_eq_true, Bool.not_eq_false, Bool.and_eq_true, Bool.or_eq_true, Bool.not_not, cond_and, cond_or, List.length_append, List.length_cons, List.length_nil] at *); have := wi64s (i + (1 : Int)); omega), hv⟩
    · exact ⟨(n0, (IntKind.wrap IntKind.i64 (i + (1 : Int))), (out)), (by kernel_rfl), Nat.lt_succ_self n0, (by dsimp only; unfold r12List.rng; (try clear hv); (try clear q1 q2); (try clear hk); (try simp only [decide_eq_true_eq, decide_eq_false_iff_not, Bool.not_eq_true, Bool.not_eq_false, Bool.and_eq_true, Bool.or_eq_true, Bool.not_not, cond_and, cond_or, List.length_append, List.length_cons, List.length_nil] at *); have := wi64s (i + (1 : Int)); omega), hv⟩
  · subst hv; exact And.intro (by kernel_rfl) (by kernel_rfl)
def r12List (m : Int) : (List Int) := r12List.go m (38) ((0 : Int)) ([])
def r12List.dec (cs : List (AV El)) : Option (Int) := popI .u64 cs fun a0 c0 => popE c0 a0
def r12List.enc (x : Int) : List (AV El) := [.v (.int .u64 x)]
theorem r12List.dec_ok : ∀ cs x, r12List.dec cs = some x → Imp (S := S) cs (r12List.enc x) := by
  intro cs x h
  unfold r12List.dec at h
  obtain ⟨a0, c0, rfl, h0⟩ := popI_some (S := S) h
  obtain ⟨rfl, rfl⟩ := popE_some (S := S) h0
  exact (.cons (.refl _))
def r12List.nf (m : Int) (K : AV El → List (AObj El) → Prop) : Prop := evCode (mkCx Try.prog S tab_kCheck 0) (evFun (mkCx Try.prog S tab_kCheck 0) 3) (.loop (loopB Try.prog 69 [true, true, false, true, false])) ({ lo := 0, slots := [(4, .v (.int .i64 ((0 : Int)))), (3, .gs 0), (5, .gs 0), (2, .v (.slice none 0 0)), (0, .v (.int .u64 (m)))], n := 18, objs := [.row 3 ([])] }) (loopK (mkCx Try.prog S tab_kCheck 0) 3 69 [true, true, false, true, false] K)
theorem r12List.nf_ok (m : Int) (K : AV El → List (AObj El) → Prop) : evFun (mkCx Try.prog S tab_kCheck 0) 4 69 [.v (.int .u64 m)] [] K = r12List.nf m K := by kernel_rfl
theorem r12List.key (m : Int) (v : (List Int)) (hv : v = r12List m) : r12List.nf m (fun r' H' => Gives r' H' (r12List.res v) (r12List.news v)) := by
  unfold r12List at hv
  unfold r12List.nf
  exact r12List.lp m v _ _ _ hv (by unfold r12List.rng; (try clear hv); (try clear q1 q2); (try clear hk); (first | omega | (simp only [List.length_nil]; omega) | (simp; omega))) _ (by kernel_rfl) (by kernel_rfl)
def r12List.ct : Ct El := ctOf r12List.dec (fun _ => []) (fun x => r12List.res (r12List x)) (fun x => r12List.news (r12List x))
theorem r12List.ok : CtOk (mkCx Try.prog S [] 0) 69 r12List.ct := ct_mk (C := (mkCx Try.prog S tab_kCheck 0)) (mkCx_ok sigOk mixed tab_kCheck_ok 0) r12List.dec_ok (fun x => rfl) 4 (fun x _ => (r12List.nf_ok x _).mpr (r12List.key x _ rfl))
def tab_r12List : List (FuncId × Ct El) := (69, r12List.ct) :: tab_kCheck
theorem tab_r12List_ok : TabOk Try.prog S tab_r12List := ⟨r12List.ok, by kernel_rfl, tab_kCheck_ok⟩

end Go.Aw.W
