/- Plain laws of what a clock shows. -/
import Derived.Test.YtpbdbnoifcjjoaaC7
set_option linter.unusedVariables false
namespace Go.Aw.Clock
open Go.Aw
theorem local_form (p s t : Int) : localF p s t = clT s + (clT t * (1000000 + clP p)) / 1000000 := by
  unfold localF
  rw [Int.mul_add, show clT t * 1000000 + clT t * clP p = clT t * clP p + clT t * 1000000 by omega, Int.add_mul_ediv_right _ _ (by omega)]
  omega
theorem clT_id {t : Int} (h0 : 0 ≤ t) (h1 : t ≤ 1099511627776) : clT t = t := by unfold clT; omega
theorem clT_mono {t u : Int} (h : t ≤ u) : clT t ≤ clT u := by unfold clT; omega
theorem local_mono (p s : Int) {t u : Int} (h : t ≤ u) : localF p s t ≤ localF p s u := by
  rw [local_form, local_form]
  have h1 := Int.mul_le_mul_of_nonneg_right (clT_mono h) (show 0 ≤ 1000000 + clP p by have := clP_le p; omega)
  have := Int.ediv_le_ediv (show (0 : Int) < 1000000 by omega) h1
  omega
theorem local_bound (p s t : Int) : 0 ≤ localF p s t ∧ localF p s t ≤ 4398046511104 := by
  unfold localF
  have h1 := prodP t p; have h2 := clT_le s; have h3 := clT_le t
  have hp := clP_le p
  have h4 : 0 ≤ clT t * (1000000 + clP p) := Int.mul_nonneg h3.1 (by omega)
  rw [Int.mul_add] at h4
  omega
theorem local_step (p s : Int) {t : Int} (h0 : 0 ≤ t) (h1 : t < 1099511627776) : localF p s (t + 1) ≤ localF p s t + 2 := by
  rw [local_form, local_form, clT_id h0 (by omega), clT_id (t := t + 1) (by omega) (by omega), Int.add_mul]
  have := clP_le p
  omega
end Go.Aw.Clock
