/- What the arguments read as. -/
import Derived.Test.YtaoadiciclopbaaDoorAwN
import Derived.Test.YtaoadiciclopbaaDoorW16
set_option linter.unusedVariables false
namespace Go.Aw.W
open Go Go.Aw Go.Proofs
def Address.has (x : Address) : Prop := IntKind.has .i64 x.Kind ∧ IntKind.has .u64 x.Bits
theorem Address.opn {H : Type} {enc : TypeId × Value → H} {w : World} {f : Bool} : Opn enc Tryd.prog S w f 26 Address Address.cells Address.has :=
  opn_struct Tryd.underlying26 [3, 22] (by kernel_rfl) (by kernel_rfl) (opnL_cons (opn_int Tryd.underlying3) (opnL_cons (opn_int Tryd.underlying22) (opnL_nil))) (fun x => (⟨x.1, x.2.1⟩ : Address)) (fun x => rfl) (fun x h => by exact ⟨h.1, h.2.1⟩)
def Identity.has (x : Identity) : Prop := Address.has x.Address ∧ IntKind.has .u64 x.IRK
theorem Identity.opn {H : Type} {enc : TypeId × Value → H} {w : World} {f : Bool} : Opn enc Tryd.prog S w f 38 Identity Identity.cells Identity.has :=
  opn_struct Tryd.underlying38 [26, 23] (by kernel_rfl) (by kernel_rfl) (opnL_cons (Address.opn) (opnL_cons (opn_int Tryd.underlying23) (opnL_nil))) (fun x => (⟨x.1, x.2.1⟩ : Identity)) (fun x => rfl) (fun x h => by exact ⟨h.1, h.2.1⟩)

end Go.Aw.W
