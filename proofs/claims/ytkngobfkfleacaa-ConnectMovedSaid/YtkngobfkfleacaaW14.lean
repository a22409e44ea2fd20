/- Contracts of the seat (printed by ct.py). -/
import Derived.Test.YtkngobfkfleacaaW13
set_option linter.unusedVariables false
set_option linter.unusedSimpArgs false
set_option maxRecDepth 20000
set_option maxHeartbeats 1000000
namespace Go.Aw.W
open Go Go.Aw Go.Proofs
attribute [local irreducible] evCode evFun evOps evDs evOne ctxK loopK loopB subC bodyC headS okH roundK

/-! wireless/clock.Real -/
def kReal.res (r : Int) : AV El := .v (.int .i64 (r))
def kReal.news (r : Int) : List (AObj El) := []
def kReal.go (c : Clock) (p1 : Int) : Nat → Int → Int → Int
  | 0, _, _ => 0
  | n0 + 1, low, high => cond (decide (low < high)) (cond (decide (p1 ≤ kLocal c (IntKind.wrap IntKind.i64 (Int.tdiv (IntKind.wrap IntKind.i64 (low + high)) (2 : Int))))) (kReal.go c p1 n0 (low) (IntKind.wrap IntKind.i64 (Int.tdiv (IntKind.wrap IntKind.i64 (low + high)) (2 : Int)))) (kReal.go c p1 n0 (IntKind.wrap IntKind.i64
  (IntKind.wrap IntKind.i64 (Int.tdiv (IntKind.wrap IntKind.i64 (low + high)) (2 : Int)) + (1 : Int))) (high))) (low)
def kReal.hd (c : Clock) (p1 : Int) (low : Int) (high : Int) : St El := { lo := 0, slots := [(5, .clo 57 [.ref 0 0, .ref 1 0]), (6, .v (.int .i64 (low))), (7, .v (.int .i64 (high)))], n := 24, objs := [.cells [.v (.int .i64 (c.PPM)), .v (.int .i64 (c.Start))], .cells [.v (.int .i64 (p1))]] }
def kReal.st (c : Clock) (p1 : Int) (low : Int) (high : Int) (J : St El → Prop) (K : AV El → List (AObj El) → Prop) : Prop := cond (decide (low < high)) (Ob ((2 : Int) ≠ (0 : Int)) ∧ (cond (decide (p1 ≤ kLocal c (IntKind.wrap IntKind.i64 (Int.tdiv (IntKind.wrap IntKind.i64 (low + high)) (2 : Int))))) (J (kReal.hd c p1 (low) (IntKind.wrap IntKind.i64 (Int.tdiv (IntKind.wrap IntKind.i64 (low + high)) (2 : Int))))) (J (kReal.hd c p1 (IntKind.wrap IntKind.i64
  (IntKind.wrap IntKind.i64 (Int.tdiv (IntKind.wrap IntKind.i64 (low + high)) (2 : Int)) + (1 : Int))) (high))))) (K (.v (.int .i64 (low))) [.cells [.v (.int .i64 (c.PPM)), .v (.int .i64 (c.Start))], .cells [.v (.int .i64 (p1))]])
theorem kReal.st_ok (c : Clock) (p1 : Int) (low : Int) (high : Int) (J : St El → Prop) (K : AV El → List (AObj El) → Prop) : evCode (mkCx Try.prog S tab_connectBack 0) (evFun (mkCx Try.prog S tab_connectBack 0) 3) (loopB Try.prog 32 [true, true, true, false, false]) (kReal.hd c p1 low high) (roundK (C := (mkCx Try.prog S tab_connectBack 0)) [5, 6, 7] [] J (loopK (mkCx Try.prog S tab_connectBack 0) 3 32 [true, true, true, false, false] K)) = kReal.st c p1 low high J K := by kernel_rfl
def kReal.rng (c : Clock) (p1 : Int) (n0 : Nat) (low : Int) (high : Int) : Prop := 0 ≤ low ∧ low ≤ high ∧ high ≤ 1099511627776 ∧ ∃ m : Nat, n0 = m + 1 ∧ high - low < (2 : Int) ^ m
theorem kReal.lp (c : Clock) (p1 : Int) (v : Int) (n0 : Nat) (low : Int) (high : Int) (hv : v = kReal.go c p1 n0 low high) (h0 : kReal.rng c p1 n0 low high) (st : St El) (q1 : okH [5, 6, 7] [] st = true) (q2 : headS [5, 6, 7] [] st = kReal.hd c p1 low high) : evCode (mkCx Try.prog S tab_connectBack 0) (evFun (mkCx Try.prog S tab_connectBack 0) 3) (.loop (loopB Try.prog 32 [true, true, true, false, false])) st (loopK (mkCx Try.prog S tab_connectBack 0) 3 32 [true, true, true, false, false] (fun r' H' => Gives r' H' (kReal.res v) (kReal.news v))) := by
  refine loop_ev rfl (evFun_mono _ _) [5, 6, 7] [] (X := Nat × Int × Int) (fun x => kReal.hd c p1 x.2.1 x.2.2) (fun x => x.1) (fun x => kReal.rng c p1 x.1 x.2.1 x.2.2 ∧ v = kReal.go c p1 x.1 x.2.1 x.2.2) (n0, low, high) ⟨q1, q2⟩ ⟨h0, hv⟩ ?_
  clear h0 hv q1 q2
  rintro ⟨n0, low, high⟩ ⟨hr, hv⟩
  dsimp only at hr hv
  cases n0 with
  | zero => exact absurd hr (by unfold kReal.rng; (rintro ⟨_, _, _, m, h, _⟩; omega))
  | succ n0 =>
  unfold kReal.rng at hr
  unfold kReal.go at hv
  refine (kReal.st_ok c p1 low high _ _).mpr ?_
  unfold kReal.st
  refine by_cond (fun hb hv => ?_) (fun hb hv => ?_) hv
  · refine ⟨⟨by (try clear hv); (try clear q1 q2); (try clear hk); (try simp only [decide_eq_true_eq, decide_eq_false_iff_not, Bool.not_eq_true, Bool.not_eq_false, Bool.and_eq_true, Bool.or_eq_true, Bool.not_not, cond_and, cond_or, List.length_append, List.length_cons, List.length_nil] at *); (first | omega | (intros; (try simp only [Bool.not_not, cond_and, cond_or, Bool.and_eq_true, decide_eq_true_eq] at *); (exact cEncode_len _)) | (intros; omega) | (intros; simp only [sized_iff, Bool.not_not, cond_and, cond_or, Bool.and_eq_true, decide_eq_true_eq] at *; omega) | (intros; simp_all [sized_iff, Bool.not_not]; done))⟩, ?_⟩
    refine by_cond (fun hb hv => ?_) (fun hb hv => ?_) hv
    · exact ⟨(n0, (low), (IntKind.wrap IntKind.i64 (Int.tdiv (IntKind.wrap IntKind.i64 (low + high)) (2 : Int)))), (by kernel_rfl), Nat.lt_succ_self n0, (by dsimp only; unfold kReal.rng; (try clear hv); (try clear q1 q2); (try clear hk); (simp only [decide_eq_true_eq, decide_eq_false_iff_not] at *; obtain ⟨r1, r2, r3, m, e, r4⟩ := hr; obtain ⟨k, rfl⟩ : ∃ k, m = k + 1 := (by cases m with | zero => (exfalso; simp at r4; omega) | succ k => exact ⟨k, rfl⟩); rw [Int.pow_succ] at r4; rw [wi64 (low + high) (by omega) (by omega), Int.tdiv_eq_ediv_of_nonneg (by omega), wi64 ((low + high) / 2) (by omega) (by omega)]; (try rw [wi64 ((low + high) / 2 + 1) (by omega) (by omega)]); exact ⟨by omega, by omega, by omega, k, by omega, by omega⟩)), hv⟩
    · exact ⟨(n0, (IntKind.wrap IntKind.i64
  (IntKind.wrap IntKind.i64 (Int.tdiv (IntKind.wrap IntKind.i64 (low + high)) (2 : Int)) + (1 : Int))), (high)), (by kernel_rfl), Nat.lt_succ_self n0, (by dsimp only; unfold kReal.rng; (try clear hv); (try clear q1 q2); (try clear hk); (simp only [decide_eq_true_eq, decide_eq_false_iff_not] at *; obtain ⟨r1, r2, r3, m, e, r4⟩ := hr; obtain ⟨k, rfl⟩ : ∃ k, m = k + 1 := (by cases m with | zero => (exfalso; simp at r4; omega) | succ k => exact ⟨k, rfl⟩); rw [Int.pow_succ] at r4; rw [wi64 (low + high) (by omega) (by omega), Int.tdiv_eq_ediv_of_nonneg (by omega), wi64 ((low + high) / 2) (by omega) (by omega)]; (try rw [wi64 ((low + high) / 2 + 1) (by omega) (by omega)]); exact ⟨by omega, by omega, by omega, k, by omega, by omega⟩)), hv⟩
  · subst hv; exact And.intro (by kernel_rfl) (by kernel_rfl)
def kReal (c : Clock) (p1 : Int) : Int := kReal.go c p1 (42) ((0 : Int)) ((1099511627776 : Int))
def kReal.dec (cs : List (AV El)) : Option (Clock × Int) := popA Clock.dec cs fun a0 c0 => popI .i64 c0 fun a1 c1 => popE c1 (a0, a1)
def kReal.enc (x : Clock × Int) : List (AV El) := [Clock.av x.1, .v (.int .i64 x.2)]
theorem kReal.dec_ok : ∀ cs x, kReal.dec cs = some x → Imp (S := S) cs (kReal.enc x) := by
  intro cs x h
  unfold kReal.dec at h
  obtain ⟨a0, c0, h0, k0⟩ := popA_some (S := S) Clock.dec_ok h
  obtain ⟨a1, c1, rfl, h1⟩ := popI_some (S := S) h0
  obtain ⟨rfl, rfl⟩ := popE_some (S := S) h1
  exact (k0 _ (.cons (.refl _)))
def kReal.nf (c : Clock) (p1 : Int) (K : AV El → List (AObj El) → Prop) : Prop := evCode (mkCx Try.prog S tab_connectBack 0) (evFun (mkCx Try.prog S tab_connectBack 0) 3) (.loop (loopB Try.prog 32 [true, true, true, false, false])) ({ lo := 0, slots := [(7, .v (.int .i64 ((1099511627776 : Int)))), (6, .v (.int .i64 ((0 : Int)))), (5, .clo 57 [.ref 0 0, .ref 1 0]), (9, .clo 57 [.ref 0 0, .ref 1 0]), (4, .v (.int .i64 ((0 : Int)))), (3, .ref 1 0), (2, .ref 0 0), (0, .agg [.v (.int .i64 (c.PPM)), .v (.int .i64 (c.Start))]), (1, .v (.int .i64 (p1)))], n := 24, objs := [.cells [.v (.int .i64 (c.PPM)), .v (.int .i64 (c.Start))], .cells [.v (.int .i64 (p1))]] }) (loopK (mkCx Try.prog S tab_connectBack 0) 3 32 [true, true, true, false, false] K)
theorem kReal.nf_ok (c : Clock) (p1 : Int) (K : AV El → List (AObj El) → Prop) : evFun (mkCx Try.prog S tab_connectBack 0) 4 32 [Clock.av c, .v (.int .i64 p1)] [] K = kReal.nf c p1 K := by kernel_rfl
theorem kReal.key (c : Clock) (p1 : Int) (v : Int) (hv : v = kReal c p1) : kReal.nf c p1 (fun r' H' => Gives r' H' (kReal.res v) (kReal.news v)) := by
  unfold kReal at hv
  unfold kReal.nf
  exact kReal.lp c p1 v _ _ _ hv (by unfold kReal.rng; (try clear hv); (try clear q1 q2); (try clear hk); (exact ⟨by omega, by omega, by omega, 41, rfl, by decide⟩)) _ (by kernel_rfl) (by kernel_rfl)
def kReal.ct : Ct El := ctOf kReal.dec (fun _ => []) (fun x => kReal.res (kReal x.1 x.2)) (fun x => kReal.news (kReal x.1 x.2))
theorem kReal.ok : CtOk (mkCx Try.prog S [] 0) 32 kReal.ct := ct_mk (C := (mkCx Try.prog S tab_connectBack 0)) (mkCx_ok sigOk mixed tab_connectBack_ok 0) kReal.dec_ok (fun x => rfl) 4 (fun x _ => (kReal.nf_ok x.1 x.2 _).mpr (kReal.key x.1 x.2 _ rfl))
def tab_kReal : List (FuncId × Ct El) := (32, kReal.ct) :: tab_connectBack
theorem tab_kReal_ok : TabOk Try.prog S tab_kReal := ⟨kReal.ok, by kernel_rfl, tab_connectBack_ok⟩

end Go.Aw.W
