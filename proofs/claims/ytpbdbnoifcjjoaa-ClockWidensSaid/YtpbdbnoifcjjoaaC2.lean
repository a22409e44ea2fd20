/- Contracts of the clock's functions, out of their reckonings. -/
import Derived.Test.YtpbdbnoifcjjoaaC1
set_option linter.unusedVariables false
namespace Go.Aw.Clock
open Go.Aw Go.Proofs

theorem wi64 (n : Int) (h0 : -9223372036854775808 ≤ n) (h1 : n < 9223372036854775808) : IntKind.i64.wrap n = n := by
  simp [IntKind.wrap, IntKind.bits, IntKind.signed]; omega
theorem minI_eq (a b : Int) : minI a b = min a b := by unfold minI; split <;> omega
theorem maxI_eq (a b : Int) : maxI a b = max a b := by unfold maxI; split <;> omega

def clT (t : Int) : Int := min (max t 0) 1099511627776
def clP (p : Int) : Int := min (max p (-500)) 500
def clW (p : Int) : Int := min (max p 0) 1000
def localF (p s t : Int) : Int := clT s + clT t + (clT t * clP p) / 1000000
def checkF (p s : Int) : Int := if p < -500 ∨ 500 < p ∨ s < 0 ∨ 1099511627776 < s then 5 else 0
def widF (p n : Int) : Int := (clT n * clW p + 999999) / 1000000 + 32

theorem clT_le (t : Int) : 0 ≤ clT t ∧ clT t ≤ 1099511627776 := by unfold clT; omega
theorem clP_le (t : Int) : -500 ≤ clP t ∧ clP t ≤ 500 := by unfold clP; omega
theorem clW_le (t : Int) : 0 ≤ clW t ∧ clW t ≤ 1000 := by unfold clW; omega
theorem prod_le {a b c : Int} (h0 : 0 ≤ a) (h1 : a ≤ 1099511627776) (h : -c ≤ b) (h' : b ≤ c) : -(1099511627776 * c) ≤ a * b ∧ a * b ≤ 1099511627776 * c := by
  have hc : 0 ≤ c := by omega
  have h3 : a * c ≤ 1099511627776 * c := Int.mul_le_mul_of_nonneg_right h1 hc
  have h4 : a * b ≤ a * c := Int.mul_le_mul_of_nonneg_left h' h0
  have h5 : a * (-c) ≤ a * b := Int.mul_le_mul_of_nonneg_left h h0
  rw [Int.mul_neg] at h5
  omega
theorem prodP (t p : Int) : -549755813888000 ≤ clT t * clP p ∧ clT t * clP p ≤ 549755813888000 := by
  have := prod_le (clT_le t).1 (clT_le t).2 (clP_le p).1 (clP_le p).2
  omega
theorem prodW (t p : Int) : 0 ≤ clT t * clW p ∧ clT t * clW p ≤ 1099511627776000 := by
  have := prod_le (c := 1000) (clT_le t).1 (clT_le t).2 (by have := clW_le p; omega) (clW_le p).2
  exact ⟨Int.mul_nonneg (clT_le t).1 (clW_le p).1, by omega⟩

theorem local_a (p s t : Int) (h : (IntKind.i64.wrap (minI (maxI t 0) 1099511627776 * minI (maxI p (-500)) 500)).tmod 1000000 < 0) :
    IntKind.i64.wrap (IntKind.i64.wrap (minI (maxI s 0) 1099511627776 + minI (maxI t 0) 1099511627776) + IntKind.i64.wrap (IntKind.i64.wrap ((IntKind.i64.wrap (minI (maxI t 0) 1099511627776 * minI (maxI p (-500)) 500)).tdiv 1000000) - 1)) = localF p s t := by
  simp only [minI_eq, maxI_eq] at h ⊢
  rw [show min (max t 0) 1099511627776 = clT t from rfl, show min (max p (-500)) 500 = clP p from rfl] at h ⊢
  rw [show min (max s 0) 1099511627776 = clT s from rfl]
  unfold localF
  have h1 := prodP t p; have h2 := clT_le s; have h3 := clT_le t
  generalize clT t * clP p = x at *
  rw [wi64 x (by omega) (by omega)] at h ⊢
  have := Int.mul_tdiv_add_tmod x 1000000
  have : -1000000 < x.tmod 1000000 := by rw [Int.tmod_eq_emod]; split <;> simp <;> omega
  rw [wi64 (clT s + clT t) (by omega) (by omega), wi64 (x.tdiv 1000000) (by omega) (by omega), wi64 (x.tdiv 1000000 - 1) (by omega) (by omega), wi64 _ (by omega) (by omega)]
  omega
theorem local_b (p s t : Int) (h : ¬ (IntKind.i64.wrap (minI (maxI t 0) 1099511627776 * minI (maxI p (-500)) 500)).tmod 1000000 < 0) :
    IntKind.i64.wrap (IntKind.i64.wrap (minI (maxI s 0) 1099511627776 + minI (maxI t 0) 1099511627776) + IntKind.i64.wrap ((IntKind.i64.wrap (minI (maxI t 0) 1099511627776 * minI (maxI p (-500)) 500)).tdiv 1000000)) = localF p s t := by
  simp only [minI_eq, maxI_eq] at h ⊢
  rw [show min (max t 0) 1099511627776 = clT t from rfl, show min (max p (-500)) 500 = clP p from rfl] at h ⊢
  rw [show min (max s 0) 1099511627776 = clT s from rfl]
  unfold localF
  have h1 := prodP t p; have h2 := clT_le s; have h3 := clT_le t
  generalize clT t * clP p = x at *
  rw [wi64 x (by omega) (by omega)] at h ⊢
  have := Int.mul_tdiv_add_tmod x 1000000
  have : x.tmod 1000000 < 1000000 := by rw [Int.tmod_eq_emod]; split <;> simp <;> omega
  rw [wi64 (clT s + clT t) (by omega) (by omega), wi64 (x.tdiv 1000000) (by omega) (by omega), wi64 _ (by omega) (by omega)]
  omega

def lim2Ct : Ct ElC := fun | [.v (.int .i64 a), .v (.int .i64 b), .v (.int .i64 c)] => (bif decide (b ≤ c) then some ([], .v (.int .i64 (minI (maxI a b) c)), []) else none) | _ => none
theorem lim2Ct_spec {args : List (AV ElC)} {r} (h : lim2Ct args = some r) : ∃ a b c, args = [i a, i b, i c] ∧ b ≤ c ∧ r = ([], i (minI (maxI a b) c), []) := by
  unfold lim2Ct at h
  split at h
  · rename_i a b c
    by_cases hb : b ≤ c
    · simp only [hb, decide_true, cond_true] at h
      cases h; exact ⟨_, _, _, rfl, hb, rfl⟩
    · simp [hb] at h
  · cases h
noncomputable def C1 : Cx := { P := Try.prog, S := S, T := fun _ => none, eqT := fun _ => false, F := fun n => match n with | 20 => some Try.f20 | _ => none }
theorem ok1 : CxOk C1 := by
  refine ⟨sigOk, (fun t h => by cases h), (fun f ct h => by cases h), (fun f ct h => by cases h), fun f fn h => ?_, mixed⟩
  simp only [C1] at h
  split at h
  · cases h; exact ⟨Try.func20, by kernel_rfl⟩
  · cases h
theorem lim2_ok : CtOk C1 20 lim2Ct := by
  refine ct_of_fun ok1 2 fun args ps r news h hp => ?_
  obtain ⟨a, b, c, rfl, hbc, hr⟩ := lim2Ct_spec h
  cases hr
  have : evFun C1 2 20 [i a, i b, i c] [] (fun r' H' => Gives r' H' (i (minI (maxI a b) c)) []) =
    ((decide (a < b) = true → Gives (i b) [] (i (minI (maxI a b) c)) []) ∧ (decide (a < b) = false → (decide (c < a) = true → Gives (i c) [] (i (minI (maxI a b) c)) []) ∧ (decide (c < a) = false → Gives (i a) [] (i (minI (maxI a b) c)) []))) := by kernel_rfl
  refine this.mpr ?_
  refine ⟨fun h => ?_, fun h => ⟨fun h' => ?_, fun h' => ?_⟩⟩
  · rw [show minI (maxI a b) c = b by rw [minI_eq, maxI_eq]; have := of_decide_eq_true h; omega]; exact ⟨rfl, rfl⟩
  · rw [show minI (maxI a b) c = c by rw [minI_eq, maxI_eq]; have := of_decide_eq_true h'; omega]; exact ⟨rfl, rfl⟩
  · rw [show minI (maxI a b) c = a by rw [minI_eq, maxI_eq]; have := of_decide_eq_false h'; have := of_decide_eq_false h; omega]; exact ⟨rfl, rfl⟩
end Go.Aw.Clock
