/- What the arguments read as. -/
import Derived.Test.YtcpcakglnckpeaaDoorXAwN
import Derived.Test.YtcpcakglnckpeaaDoorXW21
set_option linter.unusedVariables false
namespace Go.Aw.W
open Go Go.Aw Go.Proofs
def Address.has (x : Address) : Prop := IntKind.has .i64 x.Kind ∧ IntKind.has .u64 x.Bits
theorem Address.opn {H : Type} {enc : TypeId × Value → H} {w : World} {f : Bool} : Opn enc Tryd.prog S w f 25 Address Address.cells Address.has :=
  opn_struct Tryd.underlying25 [3, 23] (by kernel_rfl) (by kernel_rfl) (opnL_cons (opn_int Tryd.underlying3) (opnL_cons (opn_int Tryd.underlying23) (opnL_nil))) (fun x => (⟨x.1, x.2.1⟩ : Address)) (fun x => rfl) (fun x h => by exact ⟨h.1, h.2.1⟩)
def Identity.has (x : Identity) : Prop := Address.has x.Address ∧ IntKind.has .u64 x.IRK
theorem Identity.opn {H : Type} {enc : TypeId × Value → H} {w : World} {f : Bool} : Opn enc Tryd.prog S w f 72 Identity Identity.cells Identity.has :=
  opn_struct Tryd.underlying72 [25, 70] (by kernel_rfl) (by kernel_rfl) (opnL_cons (Address.opn) (opnL_cons (opn_int Tryd.underlying70) (opnL_nil))) (fun x => (⟨x.1, x.2.1⟩ : Identity)) (fun x => rfl) (fun x h => by exact ⟨h.1, h.2.1⟩)
def Law20Ask.has (x : Law20Ask) : Prop := IntKind.has .i64 x.Policy ∧ IntKind.has .i64 x.Request ∧ Address.has x.From
theorem Law20Ask.opn {H : Type} {enc : TypeId × Value → H} {w : World} {f : Bool} : Opn enc Tryd.prog S w f 37 Law20Ask Law20Ask.cells Law20Ask.has :=
  opn_struct Tryd.underlying37 [3, 3, 25] (by kernel_rfl) (by kernel_rfl) (opnL_cons (opn_int Tryd.underlying3) (opnL_cons (opn_int Tryd.underlying3) (opnL_cons (Address.opn) (opnL_nil)))) (fun x => (⟨x.1, x.2.1, x.2.2.1⟩ : Law20Ask)) (fun x => rfl) (fun x h => by exact ⟨h.1, h.2.1, h.2.2.1⟩)
def Law20Step.has (x : Law20Step) : Prop := True ∧ Address.has x.Address
theorem Law20Step.opn {H : Type} {enc : TypeId × Value → H} {w : World} {f : Bool} : Opn enc Tryd.prog S w f 42 Law20Step Law20Step.cells Law20Step.has :=
  opn_struct Tryd.underlying42 [4, 25] (by kernel_rfl) (by kernel_rfl) (opnL_cons (opn_bool Tryd.underlying4) (opnL_cons (Address.opn) (opnL_nil))) (fun x => (⟨x.1, x.2.1⟩ : Law20Step)) (fun x => rfl) (fun x h => by exact ⟨h.1, h.2.1⟩)

end Go.Aw.W
