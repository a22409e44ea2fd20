/- What all law texts of the clock seat share. -/
import Derived.Test.YtpbdbnoifcjjoaaC6
import Derived.Test.YtpbdbnoifcjjoaaAwO
set_option linter.unusedVariables false
namespace Go.Aw.Clock
open Go.Aw Go.Proofs
theorem glob_any {env : Env} {w : World} {g : Nat} : Γ S env w (S.glob g) (.pointer (some ⟨g, 0, none⟩)) := Γ.any _
theorem agg2 {env : Env} {w : World} (a b : Int) : Γ S env w (ck a b) (.agg #[.int .i64 a, .int .i64 b]) := by
  refine Γ.agg _ _ rfl fun j => ?_
  match j with
  | 0 => exact Γ.v _
  | 1 => exact Γ.v _
  | j + 2 => exact Γ.any _
end Go.Aw.Clock
