/- The plain law of Real: the first time at which a clock shows at least a local time. -/
import Derived.Test.YtpbdbnoifcjjoaaC8
set_option linter.unusedVariables false
namespace Go.Aw.Clock
open Go.Aw
theorem bs_first (p s l : Int) : ∀ (k : Nat) (lo hi : Int), 0 ≤ lo → lo ≤ hi → hi ≤ 1099511627776 → hi - lo < 2 ^ k → (0 < lo → localF p s (lo - 1) < l) → (hi < 1099511627776 → l ≤ localF p s hi) →
    0 ≤ bsF p s l k lo hi ∧ bsF p s l k lo hi ≤ 1099511627776 ∧ (0 < bsF p s l k lo hi → localF p s (bsF p s l k lo hi - 1) < l) ∧ (bsF p s l k lo hi < 1099511627776 → l ≤ localF p s (bsF p s l k lo hi))
  | 0, lo, hi, h0, h1, h2, h3, h4, h5 => by
    have : hi = lo := by simp at h3; omega
    subst this
    exact ⟨h0, h2, h4, h5⟩
  | k + 1, lo, hi, h0, h1, h2, h3, h4, h5 => by
    rw [Int.pow_succ] at h3
    simp only [bsF]
    by_cases hlt : lo < hi
    · rw [if_pos hlt]
      by_cases hl : l ≤ localF p s ((lo + hi) / 2)
      · rw [if_pos hl]
        exact bs_first p s l k lo _ h0 (by omega) (by omega) (by omega) h4 (fun _ => hl)
      · rw [if_neg hl]
        exact bs_first p s l k _ hi (by omega) (by omega) h2 (by omega) (fun _ => by rw [show (lo + hi) / 2 + 1 - 1 = (lo + hi) / 2 by omega]; omega) h5
    · rw [if_neg hlt]
      have : hi = lo := by omega
      subst this
      exact ⟨h0, h2, h4, h5⟩
theorem real_first (p s l : Int) : 0 ≤ realF p s l ∧ realF p s l ≤ 1099511627776 ∧ (0 < realF p s l → localF p s (realF p s l - 1) < l) ∧ (realF p s l < 1099511627776 → l ≤ localF p s (realF p s l)) :=
  bs_first p s l 41 0 1099511627776 (by decide) (by decide) (by decide) (by decide) (fun h => by omega) (fun h => by omega)
end Go.Aw.Clock
