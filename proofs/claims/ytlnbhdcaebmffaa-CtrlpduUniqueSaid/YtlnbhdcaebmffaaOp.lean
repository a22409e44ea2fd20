/- What the arguments read as. -/
import Derived.Test.YtlnbhdcaebmffaaAwN
import Derived.Test.YtlnbhdcaebmffaaW16
set_option linter.unusedVariables false
namespace Go.Aw.W
open Go Go.Aw Go.Proofs
def Update.has (x : Update) : Prop := IntKind.has .i64 x.WinSize ∧ IntKind.has .i64 x.WinOffset ∧ IntKind.has .i64 x.Interval ∧ IntKind.has .i64 x.Latency ∧ IntKind.has .i64 x.Timeout
theorem Update.opn {H : Type} {enc : TypeId × Value → H} {w : World} {f : Bool} : Opn enc Try.prog S w f 23 Update Update.cells Update.has :=
  opn_struct Try.underlying23 [3, 3, 3, 3, 3] (by kernel_rfl) (by kernel_rfl) (opnL_cons (opn_int Try.underlying3) (opnL_cons (opn_int Try.underlying3) (opnL_cons (opn_int Try.underlying3) (opnL_cons (opn_int Try.underlying3) (opnL_cons (opn_int Try.underlying3) (opnL_nil)))))) (fun x => (⟨x.1, x.2.1, x.2.2.1, x.2.2.2.1, x.2.2.2.2.1⟩ : Update)) (fun x => rfl) (fun x h => by exact ⟨h.1, h.2.1, h.2.2.1, h.2.2.2.1, h.2.2.2.2.1⟩)
def Control.has (x : Control) : Prop := IntKind.has .i64 x.Kind ∧ Update.has x.Update ∧ IntKind.has .u64 x.Map ∧ IntKind.has .u16 x.Instant ∧ IntKind.has .i64 x.Reason ∧ IntKind.has .i64 x.Rejected ∧ IntKind.has .u64 x.Salt ∧ IntKind.has .u64 x.Mark ∧ IntKind.has .u64 x.Features ∧ IntKind.has .i64 x.Version ∧ IntKind.has .i64 x.Length
theorem Control.opn {H : Type} {enc : TypeId × Value → H} {w : World} {f : Bool} : Opn enc Try.prog S w f 28 Control Control.cells Control.has :=
  opn_struct Try.underlying28 [3, 23, 25, 26, 3, 3, 24, 24, 24, 3, 3] (by kernel_rfl) (by kernel_rfl) (opnL_cons (opn_int Try.underlying3) (opnL_cons (Update.opn) (opnL_cons (opn_int Try.underlying25) (opnL_cons (opn_int Try.underlying26) (opnL_cons (opn_int Try.underlying3) (opnL_cons (opn_int Try.underlying3) (opnL_cons (opn_int Try.underlying24) (opnL_cons (opn_int Try.underlying24) (opnL_cons (opn_int Try.underlying24) (opnL_cons (opn_int Try.underlying3) (opnL_cons (opn_int Try.underlying3) (opnL_nil)))))))))))) (fun x => (⟨x.1, x.2.1, x.2.2.1, x.2.2.2.1, x.2.2.2.2.1, x.2.2.2.2.2.1, x.2.2.2.2.2.2.1, x.2.2.2.2.2.2.2.1, x.2.2.2.2.2.2.2.2.1, x.2.2.2.2.2.2.2.2.2.1, x.2.2.2.2.2.2.2.2.2.2.1⟩ : Control)) (fun x => rfl) (fun x h => by exact ⟨h.1, h.2.1, h.2.2.1, h.2.2.2.1, h.2.2.2.2.1, h.2.2.2.2.2.1, h.2.2.2.2.2.2.1, h.2.2.2.2.2.2.2.1, h.2.2.2.2.2.2.2.2.1, h.2.2.2.2.2.2.2.2.2.1, h.2.2.2.2.2.2.2.2.2.2.1⟩)

end Go.Aw.W
