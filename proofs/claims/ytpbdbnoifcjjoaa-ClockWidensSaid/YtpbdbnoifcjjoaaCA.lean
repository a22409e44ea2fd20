/- The plain law of the widening: two valid clocks advance by amounts that differ by at most the widening for both deviations. -/
import Derived.Test.YtpbdbnoifcjjoaaC9
set_option linter.unusedVariables false
namespace Go.Aw.Clock
open Go.Aw
theorem check_ok {p s : Int} (h : checkF p s = 0) : -500 ≤ p ∧ p ≤ 500 ∧ 0 ≤ s ∧ s ≤ 1099511627776 := by
  unfold checkF at h
  split at h
  · omega
  · omega
theorem wid_bound (p n : Int) : 32 ≤ widF p n ∧ widF p n ≤ 1099511660 := by
  unfold widF
  have := prodW n p
  omega
theorem widens {p s q r t u : Int} (h1 : checkF p s = 0) (h2 : checkF q r = 0) (h3 : 0 ≤ t) (h4 : t ≤ u) (h5 : u ≤ 1099511627776) :
    localF p s u - localF p s t - (localF q r u - localF q r t) ≤ widF (max p (-p) + max q (-q)) (u - t) ∧ -widF (max p (-p) + max q (-q)) (u - t) ≤ localF p s u - localF p s t - (localF q r u - localF q r t) := by
  obtain ⟨v1, v2, v3, v4⟩ := check_ok h1
  obtain ⟨y1, y2, y3, y4⟩ := check_ok h2
  have cp : clP p = p := by unfold clP; omega
  have cq : clP q = q := by unfold clP; omega
  have cw : clW (max p (-p) + max q (-q)) = max p (-p) + max q (-q) := by unfold clW; omega
  unfold localF widF
  rw [cp, cq, cw, clT_id (t := t) h3 (by omega), clT_id (t := u) (by omega) h5, clT_id (t := u - t) (by omega) (by omega)]
  have a1 : (u - t) * (p - q) ≤ (u - t) * (max p (-p) + max q (-q)) := Int.mul_le_mul_of_nonneg_left (by omega) (by omega)
  have a2 : (u - t) * (q - p) ≤ (u - t) * (max p (-p) + max q (-q)) := Int.mul_le_mul_of_nonneg_left (by omega) (by omega)
  have a3 : (u - t) * (p - q) = u * p - t * p - (u * q - t * q) := by rw [Int.sub_mul, Int.mul_sub, Int.mul_sub]; omega
  have a4 : (u - t) * (q - p) = u * q - t * q - (u * p - t * p) := by rw [Int.sub_mul, Int.mul_sub, Int.mul_sub]; omega
  rw [a3] at a1; rw [a4] at a2
  generalize (u - t) * (max p (-p) + max q (-q)) = Z at *
  generalize u * p = X at *
  generalize t * p = Y at *
  generalize u * q = X' at *
  generalize t * q = Y' at *
  omega
end Go.Aw.Clock
