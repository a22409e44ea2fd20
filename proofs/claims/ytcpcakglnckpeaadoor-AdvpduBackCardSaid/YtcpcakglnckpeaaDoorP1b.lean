/- Lengths of what is left of a payload. -/
import Derived.Test.YtcpcakglnckpeaaDoorW11
import Derived.Test.YtcpcakglnckpeaaDoorP1
set_option linter.unusedVariables false
namespace Go.Aw.W
open Go Go.Aw Go.Proofs
theorem r19Payload_rest (k : Int) (b : List Int) : (r19Payload k b).2.1.length ≤ b.length := by
  have h1 := r8Decode_rest b
  have h2 := r8Decode_rest (r8Decode b).2.1
  unfold r19Payload
  generalize r8Decode (r8Decode b).2.1 = u at *
  generalize r8Decode b = t at *
  repeat' (first | (refine cond_le (fun _ => ?_) (fun _ => ?_)))
  all_goals first | (simp; done) | (simp; omega) | exact Nat.le_trans h2 h1 | exact h1
end Go.Aw.W
