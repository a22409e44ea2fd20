/- What the arguments read as. -/
import Derived.Test.YtlnbhdcaebmffaaXAwN
import Derived.Test.YtlnbhdcaebmffaaXW14
set_option linter.unusedVariables false
namespace Go.Aw.W
open Go Go.Aw Go.Proofs
def Arr49.has (x : Arr49) : Prop := IntKind.has .u64 x.e0 ∧ IntKind.has .u64 x.e1
theorem Arr49.opn {H : Type} {enc : TypeId × Value → H} {w : World} {f : Bool} : Opn enc Try.prog S w f 49 Arr49 Arr49.cells Arr49.has :=
  opn_array Try.underlying49 (by kernel_rfl) (opnL_cons (opn_int Try.underlying24) (opnL_cons (opn_int Try.underlying24) (opnL_nil))) (fun x => (⟨x.1, x.2.1⟩ : Arr49)) (fun x => rfl) (fun x h => by exact ⟨h.1, h.2.1⟩)

end Go.Aw.W
