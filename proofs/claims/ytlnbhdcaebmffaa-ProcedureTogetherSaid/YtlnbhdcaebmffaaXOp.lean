/- What the arguments read as. -/
import Derived.Test.YtlnbhdcaebmffaaXAwN
import Derived.Test.YtlnbhdcaebmffaaXW0
set_option linter.unusedVariables false
namespace Go.Aw.W
open Go Go.Aw Go.Proofs
structure Arr49 where
 e0:Int
 e1:Int
def Arr49.cells (x:Arr49): List (AV El):= [.v (.int .u64 x.e0), .v (.int .u64 x.e1)]
structure Arr65 where
 e0:Int
 e1:Int
def Arr65.cells (x:Arr65): List (AV El):= [.v (.int .i64 x.e0), .v (.int .i64 x.e1)]
structure Arr115 where
 e0:Int
 e1:Int
def Arr115.cells (x:Arr115): List (AV El):= [.v (.int .u8 x.e0), .v (.int .u8 x.e1)]
def Arr49.has (x:Arr49): Prop:=IntKind.has .u64 x.e0∧IntKind.has .u64 x.e1
theorem Arr49.opn {H:Type} {enc:TypeId×Value→H} {w:World} {f:Bool}: Opn enc Try.prog S w f 49 Arr49 Arr49.cells Arr49.has :=
 opn_array Try.underlying49 (by kernel_rfl) (opnL_cons (opn_int Try.underlying24) (opnL_cons (opn_int Try.underlying24) (opnL_nil))) (fun x=>(⟨x.1,x.2.1⟩: Arr49)) (fun x=>rfl) (fun x h=>by exact ⟨h.1,h.2.1⟩)
def Arr65.has (x:Arr65): Prop:=IntKind.has .i64 x.e0∧IntKind.has .i64 x.e1
theorem Arr65.opn {H:Type} {enc:TypeId×Value→H} {w:World} {f:Bool}: Opn enc Try.prog S w f 65 Arr65 Arr65.cells Arr65.has :=
 opn_array Try.underlying65 (by kernel_rfl) (opnL_cons (opn_int Try.underlying3) (opnL_cons (opn_int Try.underlying3) (opnL_nil))) (fun x=>(⟨x.1,x.2.1⟩: Arr65)) (fun x=>rfl) (fun x h=>by exact ⟨h.1,h.2.1⟩)
def Update.has (x:Update): Prop:=IntKind.has .i64 x.WinSize∧IntKind.has .i64 x.WinOffset∧IntKind.has .i64 x.Interval∧IntKind.has .i64 x.Latency∧IntKind.has .i64 x.Timeout
theorem Update.opn {H:Type} {enc:TypeId×Value→H} {w:World} {f:Bool}: Opn enc Try.prog S w f 23 Update Update.cells Update.has :=
 opn_struct Try.underlying23 [3,3,3,3,3] (by kernel_rfl) (by kernel_rfl) (opnL_cons (opn_int Try.underlying3) (opnL_cons (opn_int Try.underlying3) (opnL_cons (opn_int Try.underlying3) (opnL_cons (opn_int Try.underlying3) (opnL_cons (opn_int Try.underlying3) (opnL_nil)))))) (fun x=>(⟨x.1,x.2.1,x.2.2.1,x.2.2.2.1,x.2.2.2.2.1⟩: Update)) (fun x=>rfl) (fun x h=>by exact ⟨h.1,h.2.1,h.2.2.1,h.2.2.2.1,h.2.2.2.2.1⟩)
def Control.has (x:Control): Prop:=IntKind.has .i64 x.Kind∧Update.has x.Update∧IntKind.has .u64 x.Map∧IntKind.has .u16 x.Instant∧IntKind.has .i64 x.Reason∧IntKind.has .i64 x.Rejected∧IntKind.has .u64 x.Salt∧IntKind.has .u64 x.Mark∧IntKind.has .u64 x.Features∧IntKind.has .i64 x.Version∧IntKind.has .i64 x.Length
theorem Control.opn {H:Type} {enc:TypeId×Value→H} {w:World} {f:Bool}: Opn enc Try.prog S w f 28 Control Control.cells Control.has :=
 opn_struct Try.underlying28 [3,23,25,26,3,3,24,24,24,3,3] (by kernel_rfl) (by kernel_rfl) (opnL_cons (opn_int Try.underlying3) (opnL_cons (Update.opn) (opnL_cons (opn_int Try.underlying25) (opnL_cons (opn_int Try.underlying26) (opnL_cons (opn_int Try.underlying3) (opnL_cons (opn_int Try.underlying3) (opnL_cons (opn_int Try.underlying24) (opnL_cons (opn_int Try.underlying24) (opnL_cons (opn_int Try.underlying24) (opnL_cons (opn_int Try.underlying3) (opnL_cons (opn_int Try.underlying3) (opnL_nil)))))))))))) (fun x=>(⟨x.1,x.2.1,x.2.2.1,x.2.2.2.1,x.2.2.2.2.1,x.2.2.2.2.2.1,x.2.2.2.2.2.2.1,x.2.2.2.2.2.2.2.1,x.2.2.2.2.2.2.2.2.1,x.2.2.2.2.2.2.2.2.2.1,x.2.2.2.2.2.2.2.2.2.2.1⟩: Control)) (fun x=>rfl) (fun x h=>by exact ⟨h.1,h.2.1,h.2.2.1,h.2.2.2.1,h.2.2.2.2.1,h.2.2.2.2.2.1,h.2.2.2.2.2.2.1,h.2.2.2.2.2.2.2.1,h.2.2.2.2.2.2.2.2.1,h.2.2.2.2.2.2.2.2.2.1,h.2.2.2.2.2.2.2.2.2.2.1⟩)
def Arr115.has (x:Arr115): Prop:=IntKind.has .u8 x.e0∧IntKind.has .u8 x.e1
theorem Arr115.opn {H:Type} {enc:TypeId×Value→H} {w:World} {f:Bool}: Opn enc Try.prog S w f 115 Arr115 Arr115.cells Arr115.has :=
 opn_array Try.underlying115 (by kernel_rfl) (opnL_cons (opn_int Try.underlying5) (opnL_cons (opn_int Try.underlying5) (opnL_nil))) (fun x=>(⟨x.1,x.2.1⟩: Arr115)) (fun x=>rfl) (fun x h=>by exact ⟨h.1,h.2.1⟩)
def Law28Move.has (x:Law28Move): Prop:=IntKind.has .u8 x.Side∧True∧Control.has x.Control∧Arr115.has ⟨x.Arrive_0,x.Arrive_1⟩
theorem Law28Move.opn {H:Type} {enc:TypeId×Value→H} {w:World} {f:Bool}: Opn enc Try.prog S w f 117 Law28Move Law28Move.cells Law28Move.has :=
 opn_struct Try.underlying117 [5,4,28,115] (by kernel_rfl) (by kernel_rfl) (opnL_cons (opn_int Try.underlying5) (opnL_cons (opn_bool Try.underlying4) (opnL_cons (Control.opn) (opnL_cons (Arr115.opn) (opnL_nil))))) (fun x=>(⟨x.1,x.2.1,x.2.2.1,x.2.2.2.1.e0,x.2.2.2.1.e1⟩: Law28Move)) (fun x=>rfl) (fun x h=>by exact ⟨h.1,h.2.1,h.2.2.1,h.2.2.2.1⟩)
def Law28Talk.has (x:Law28Talk): Prop:=Arr49.has ⟨x.Features_0,x.Features_1⟩∧Arr65.has ⟨x.Limits_0,x.Limits_1⟩∧True∧IntKind.has .u64 x.Salt∧((∀y∈x.Moves,Law28Move.has y)∧x.Moves.length*136≤140737488351232)
theorem Law28Talk.opn {H:Type} {enc:TypeId×Value→H} {w:World} {f:Bool}: Opn enc Try.prog S w f 68 Law28Talk Law28Talk.cells Law28Talk.has :=
 opn_struct Try.underlying68 [49,65,4,24,66] (by kernel_rfl) (by kernel_rfl) (opnL_cons (Arr49.opn) (opnL_cons (Arr65.opn) (opnL_cons (opn_bool Try.underlying4) (opnL_cons (opn_int Try.underlying24) (opnL_cons (opn_slice (S:=S) (e:=117) Try.underlying66 (by kernel_rfl) (sigOk.pos _) (fun x=>sigOk.len _ x) (nb:=136) (by kernel_rfl) (Law28Move.opn)) (opnL_nil)))))) (fun x=>(⟨x.1.e0,x.1.e1,x.2.1.e0,x.2.1.e1,x.2.2.1,x.2.2.2.1,x.2.2.2.2.1⟩: Law28Talk)) (fun x=>rfl) (fun x h=>by exact ⟨h.1,h.2.1,h.2.2.1,h.2.2.2.1,h.2.2.2.2.1⟩)
end Go.Aw.W
