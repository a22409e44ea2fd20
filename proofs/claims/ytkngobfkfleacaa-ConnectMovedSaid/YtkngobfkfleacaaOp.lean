/- What the arguments read as. -/
import Derived.Test.YtkngobfkfleacaaAwN
import Derived.Test.YtkngobfkfleacaaW15
set_option linter.unusedVariables false
namespace Go.Aw.W
open Go Go.Aw Go.Proofs
def Update.has (x : Update) : Prop := IntKind.has .i64 x.WinSize ∧ IntKind.has .i64 x.WinOffset ∧ IntKind.has .i64 x.Interval ∧ IntKind.has .i64 x.Latency ∧ IntKind.has .i64 x.Timeout
theorem Update.opn {H : Type} {enc : TypeId × Value → H} {w : World} {f : Bool} : Opn enc Try.prog S w f 23 Update Update.cells Update.has :=
  opn_struct Try.underlying23 [3, 3, 3, 3, 3] (by kernel_rfl) (by kernel_rfl) (opnL_cons (opn_int Try.underlying3) (opnL_cons (opn_int Try.underlying3) (opnL_cons (opn_int Try.underlying3) (opnL_cons (opn_int Try.underlying3) (opnL_cons (opn_int Try.underlying3) (opnL_nil)))))) (fun x => ⟨x.1, x.2.1, x.2.2.1, x.2.2.2.1, x.2.2.2.2.1⟩) (fun x => rfl) (fun x h => ⟨h.1, h.2.1, h.2.2.1, h.2.2.2.1, h.2.2.2.2.1⟩)
def ConnParams.has (x : ConnParams) : Prop := IntKind.has .u32 x.Access ∧ IntKind.has .u32 x.Init ∧ Update.has x.Update ∧ IntKind.has .u64 x.Map ∧ IntKind.has .i64 x.Hop ∧ IntKind.has .i64 x.PPM ∧ IntKind.has .i64 x.Algorithm
theorem ConnParams.opn {H : Type} {enc : TypeId × Value → H} {w : World} {f : Bool} : Opn enc Try.prog S w f 28 ConnParams ConnParams.cells ConnParams.has :=
  opn_struct Try.underlying28 [24, 24, 23, 26, 3, 3, 3] (by kernel_rfl) (by kernel_rfl) (opnL_cons (opn_int Try.underlying24) (opnL_cons (opn_int Try.underlying24) (opnL_cons (Update.opn) (opnL_cons (opn_int Try.underlying26) (opnL_cons (opn_int Try.underlying3) (opnL_cons (opn_int Try.underlying3) (opnL_cons (opn_int Try.underlying3) (opnL_nil)))))))) (fun x => ⟨x.1, x.2.1, x.2.2.1, x.2.2.2.1, x.2.2.2.2.1, x.2.2.2.2.2.1, x.2.2.2.2.2.2.1⟩) (fun x => rfl) (fun x h => ⟨h.1, h.2.1, h.2.2.1, h.2.2.2.1, h.2.2.2.2.1, h.2.2.2.2.2.1, h.2.2.2.2.2.2.1⟩)
def Law17Wait.has (x : Law17Wait) : Prop := IntKind.has .i64 x.Anchor ∧ IntKind.has .i64 x.N ∧ IntKind.has .i64 x.PPM
theorem Law17Wait.opn {H : Type} {enc : TypeId × Value → H} {w : World} {f : Bool} : Opn enc Try.prog S w f 48 Law17Wait Law17Wait.cells Law17Wait.has :=
  opn_struct Try.underlying48 [3, 3, 3] (by kernel_rfl) (by kernel_rfl) (opnL_cons (opn_int Try.underlying3) (opnL_cons (opn_int Try.underlying3) (opnL_cons (opn_int Try.underlying3) (opnL_nil)))) (fun x => ⟨x.1, x.2.1, x.2.2.1⟩) (fun x => rfl) (fun x h => ⟨h.1, h.2.1, h.2.2.1⟩)
def Clock.has (x : Clock) : Prop := IntKind.has .i64 x.PPM ∧ IntKind.has .i64 x.Start
theorem Clock.opn {H : Type} {enc : TypeId × Value → H} {w : World} {f : Bool} : Opn enc Try.prog S w f 54 Clock Clock.cells Clock.has :=
  opn_struct Try.underlying54 [3, 3] (by kernel_rfl) (by kernel_rfl) (opnL_cons (opn_int Try.underlying3) (opnL_cons (opn_int Try.underlying3) (opnL_nil))) (fun x => ⟨x.1, x.2.1⟩) (fun x => rfl) (fun x h => ⟨h.1, h.2.1⟩)
def Law17Two.has (x : Law17Two) : Prop := Clock.has x.A ∧ Clock.has x.B
theorem Law17Two.opn {H : Type} {enc : TypeId × Value → H} {w : World} {f : Bool} : Opn enc Try.prog S w f 56 Law17Two Law17Two.cells Law17Two.has :=
  opn_struct Try.underlying56 [54, 54] (by kernel_rfl) (by kernel_rfl) (opnL_cons (Clock.opn) (opnL_cons (Clock.opn) (opnL_nil))) (fun x => ⟨x.1, x.2.1⟩) (fun x => rfl) (fun x h => ⟨h.1, h.2.1⟩)
def Law17Beat.has (x : Law17Beat) : Prop := IntKind.has .i64 x.Time ∧ IntKind.has .i64 x.N ∧ IntKind.has .i64 x.More ∧ IntKind.has .i64 x.X
theorem Law17Beat.opn {H : Type} {enc : TypeId × Value → H} {w : World} {f : Bool} : Opn enc Try.prog S w f 58 Law17Beat Law17Beat.cells Law17Beat.has :=
  opn_struct Try.underlying58 [3, 3, 3, 3] (by kernel_rfl) (by kernel_rfl) (opnL_cons (opn_int Try.underlying3) (opnL_cons (opn_int Try.underlying3) (opnL_cons (opn_int Try.underlying3) (opnL_cons (opn_int Try.underlying3) (opnL_nil))))) (fun x => ⟨x.1, x.2.1, x.2.2.1, x.2.2.2.1⟩) (fun x => rfl) (fun x h => ⟨h.1, h.2.1, h.2.2.1, h.2.2.2.1⟩)
def Arr63.has (x : Arr63) : Prop := Update.has x.e0 ∧ Update.has x.e1
theorem Arr63.opn {H : Type} {enc : TypeId × Value → H} {w : World} {f : Bool} : Opn enc Try.prog S w f 63 Arr63 Arr63.cells Arr63.has :=
  opn_array Try.underlying63 (by kernel_rfl) (opnL_cons (Update.opn) (opnL_cons (Update.opn) (opnL_nil))) (fun x => ⟨x.1, x.2.1⟩) (fun x => rfl) (fun x h => ⟨h.1, h.2.1⟩)

end Go.Aw.W
