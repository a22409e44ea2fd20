/- What the arguments read as. -/
import Derived.Test.YtcpcakglnckpeaaDoorAwN
import Derived.Test.YtcpcakglnckpeaaDoorW13
set_option linter.unusedVariables false
namespace Go.Aw.W
open Go Go.Aw Go.Proofs
def Address.has (x : Address) : Prop := IntKind.has .i64 x.Kind ∧ IntKind.has .u64 x.Bits
theorem Address.opn {H : Type} {enc : TypeId × Value → H} {w : World} {f : Bool} : Opn enc Tryd.prog S w f 25 Address Address.cells Address.has :=
  opn_struct Tryd.underlying25 [3, 23] (by kernel_rfl) (by kernel_rfl) (opnL_cons (opn_int Tryd.underlying3) (opnL_cons (opn_int Tryd.underlying23) (opnL_nil))) (fun x => (⟨x.1, x.2.1⟩ : Address)) (fun x => rfl) (fun x h => by exact ⟨h.1, h.2.1⟩)
def Update.has (x : Update) : Prop := IntKind.has .i64 x.WinSize ∧ IntKind.has .i64 x.WinOffset ∧ IntKind.has .i64 x.Interval ∧ IntKind.has .i64 x.Latency ∧ IntKind.has .i64 x.Timeout
theorem Update.opn {H : Type} {enc : TypeId × Value → H} {w : World} {f : Bool} : Opn enc Tryd.prog S w f 48 Update Update.cells Update.has :=
  opn_struct Tryd.underlying48 [3, 3, 3, 3, 3] (by kernel_rfl) (by kernel_rfl) (opnL_cons (opn_int Tryd.underlying3) (opnL_cons (opn_int Tryd.underlying3) (opnL_cons (opn_int Tryd.underlying3) (opnL_cons (opn_int Tryd.underlying3) (opnL_cons (opn_int Tryd.underlying3) (opnL_nil)))))) (fun x => (⟨x.1, x.2.1, x.2.2.1, x.2.2.2.1, x.2.2.2.2.1⟩ : Update)) (fun x => rfl) (fun x h => by exact ⟨h.1, h.2.1, h.2.2.1, h.2.2.2.1, h.2.2.2.2.1⟩)
def ConnParams.has (x : ConnParams) : Prop := IntKind.has .u32 x.Access ∧ IntKind.has .u32 x.Init ∧ Update.has x.Update ∧ IntKind.has .u64 x.Map ∧ IntKind.has .i64 x.Hop ∧ IntKind.has .i64 x.PPM ∧ IntKind.has .i64 x.Algorithm
theorem ConnParams.opn {H : Type} {enc : TypeId × Value → H} {w : World} {f : Bool} : Opn enc Tryd.prog S w f 51 ConnParams ConnParams.cells ConnParams.has :=
  opn_struct Tryd.underlying51 [46, 46, 48, 49, 3, 3, 3] (by kernel_rfl) (by kernel_rfl) (opnL_cons (opn_int Tryd.underlying46) (opnL_cons (opn_int Tryd.underlying46) (opnL_cons (Update.opn) (opnL_cons (opn_int Tryd.underlying49) (opnL_cons (opn_int Tryd.underlying3) (opnL_cons (opn_int Tryd.underlying3) (opnL_cons (opn_int Tryd.underlying3) (opnL_nil)))))))) (fun x => (⟨x.1, x.2.1, x.2.2.1, x.2.2.2.1, x.2.2.2.2.1, x.2.2.2.2.2.1, x.2.2.2.2.2.2.1⟩ : ConnParams)) (fun x => rfl) (fun x h => by exact ⟨h.1, h.2.1, h.2.2.1, h.2.2.2.1, h.2.2.2.2.1, h.2.2.2.2.2.1, h.2.2.2.2.2.2.1⟩)
def AdvPDU.has (x : AdvPDU) : Prop := IntKind.has .i64 x.Kind ∧ Address.has x.Sender ∧ Address.has x.Target ∧ ((∀ y ∈ x.Data, IntKind.has .u8 y) ∧ x.Data.length * 1 ≤ 140737488351232) ∧ ConnParams.has x.Conn
theorem AdvPDU.opn {H : Type} {enc : TypeId × Value → H} {w : World}  : Opn enc Tryd.prog S w false 53 AdvPDU AdvPDU.cells AdvPDU.has :=
  opn_struct Tryd.underlying53 [3, 25, 25, 45, 51] (by kernel_rfl) (by kernel_rfl) (opnL_cons (opn_int Tryd.underlying3) (opnL_cons (Address.opn) (opnL_cons (Address.opn) (opnL_cons (opn_slice (S := S) (e := 5) Tryd.underlying45 (by kernel_rfl) (sigOk.pos _) (fun x => sigOk.len _ x) (nb := 1) (by kernel_rfl) (opn_int Tryd.underlying5)) (opnL_cons (ConnParams.opn) (opnL_nil)))))) (fun x => (⟨x.1, x.2.1, x.2.2.1, x.2.2.2.1, x.2.2.2.2.1⟩ : AdvPDU)) (fun x => rfl) (fun x h => by exact ⟨h.1, h.2.1, h.2.2.1, h.2.2.2.1, h.2.2.2.2.1⟩)

end Go.Aw.W
