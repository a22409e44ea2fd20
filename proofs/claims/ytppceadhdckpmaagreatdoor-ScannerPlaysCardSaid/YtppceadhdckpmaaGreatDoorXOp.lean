/- What the arguments read as. -/
import Derived.Test.YtppceadhdckpmaaGreatDoorXAwL
import Derived.Test.YtppceadhdckpmaaGreatDoorXW34
set_option linter.unusedVariables false
namespace Go.Aw.W
open Go Go.Aw Go.Proofs
def Address.has (x:Address): Prop:=IntKind.has .i64 x.Kind∧IntKind.has .u64 x.Bits
theorem Address.opn {H:Type} {enc:TypeId×Value→H} {w:World} {f:Bool}: Opn enc Tryz.prog S w f 26 Address Address.cells Address.has :=
 opn_struct Tryz.underlying26 [3,24] (by kernel_rfl) (by kernel_rfl) (opnL_cons (opn_int Tryz.underlying3) (opnL_cons (opn_int Tryz.underlying24) (opnL_nil))) (fun x=>(⟨x.1,x.2.1⟩: Address)) (fun x=>rfl) (fun x h=>by exact ⟨h.1,h.2.1⟩)
def Identity.has (x:Identity): Prop:=Address.has x.Address∧IntKind.has .u64 x.IRK
theorem Identity.opn {H:Type} {enc:TypeId×Value→H} {w:World} {f:Bool}: Opn enc Tryz.prog S w f 88 Identity Identity.cells Identity.has :=
 opn_struct Tryz.underlying88 [26,86] (by kernel_rfl) (by kernel_rfl) (opnL_cons (Address.opn) (opnL_cons (opn_int Tryz.underlying86) (opnL_nil))) (fun x=>(⟨x.1,x.2.1⟩: Identity)) (fun x=>rfl) (fun x h=>by exact ⟨h.1,h.2.1⟩)
def ScanParams.has (x:ScanParams): Prop:=IntKind.has .i64 x.Interval∧IntKind.has .i64 x.Window∧True∧IntKind.has .i64 x.Policy∧((∀y∈x.Accept,Address.has y)∧x.Accept.length*16≤140737488351232)∧((∀y∈x.Identities,Identity.has y)∧x.Identities.length*24≤140737488351232)∧Address.has x.Own∧True
theorem ScanParams.opn {H:Type} {enc:TypeId×Value→H} {w:World} {f:Bool}: Opn enc Tryz.prog S w f 28 ScanParams ScanParams.cells ScanParams.has :=
 opn_struct Tryz.underlying28 [3,3,4,3,22,23,26,4] (by kernel_rfl) (by kernel_rfl) (opnL_cons (opn_int Tryz.underlying3) (opnL_cons (opn_int Tryz.underlying3) (opnL_cons (opn_bool Tryz.underlying4) (opnL_cons (opn_int Tryz.underlying3) (opnL_cons (opn_slice (S:=S) (e:=26) Tryz.underlying22 (by kernel_rfl) (sigOk.pos _) (fun x=>sigOk.len _ x) (nb:=16) (by kernel_rfl) (Address.opn)) (opnL_cons (opn_slice (S:=S) (e:=88) Tryz.underlying23 (by kernel_rfl) (sigOk.pos _) (fun x=>sigOk.len _ x) (nb:=24) (by kernel_rfl) (Identity.opn)) (opnL_cons (Address.opn) (opnL_cons (opn_bool Tryz.underlying4) (opnL_nil))))))))) (fun x=>(⟨x.1,x.2.1,x.2.2.1,x.2.2.2.1,x.2.2.2.2.1,x.2.2.2.2.2.1,x.2.2.2.2.2.2.1,x.2.2.2.2.2.2.2.1⟩: ScanParams)) (fun x=>rfl) (fun x h=>by exact ⟨h.1,h.2.1,h.2.2.1,h.2.2.2.1,h.2.2.2.2.1,h.2.2.2.2.2.1,h.2.2.2.2.2.2.1,h.2.2.2.2.2.2.2.1⟩)
def Law22At.has (x:Law22At): Prop:=IntKind.has .u64 x.Seed∧IntKind.has .i64 x.Start∧IntKind.has .i64 x.Local
theorem Law22At.opn {H:Type} {enc:TypeId×Value→H} {w:World} {f:Bool}: Opn enc Tryz.prog S w f 30 Law22At Law22At.cells Law22At.has :=
 opn_struct Tryz.underlying30 [24,3,3] (by kernel_rfl) (by kernel_rfl) (opnL_cons (opn_int Tryz.underlying24) (opnL_cons (opn_int Tryz.underlying3) (opnL_cons (opn_int Tryz.underlying3) (opnL_nil)))) (fun x=>(⟨x.1,x.2.1,x.2.2.1⟩: Law22At)) (fun x=>rfl) (fun x h=>by exact ⟨h.1,h.2.1,h.2.2.1⟩)
def Update.has (x:Update): Prop:=IntKind.has .i64 x.WinSize∧IntKind.has .i64 x.WinOffset∧IntKind.has .i64 x.Interval∧IntKind.has .i64 x.Latency∧IntKind.has .i64 x.Timeout
theorem Update.opn {H:Type} {enc:TypeId×Value→H} {w:World} {f:Bool}: Opn enc Tryz.prog S w f 43 Update Update.cells Update.has :=
 opn_struct Tryz.underlying43 [3,3,3,3,3] (by kernel_rfl) (by kernel_rfl) (opnL_cons (opn_int Tryz.underlying3) (opnL_cons (opn_int Tryz.underlying3) (opnL_cons (opn_int Tryz.underlying3) (opnL_cons (opn_int Tryz.underlying3) (opnL_cons (opn_int Tryz.underlying3) (opnL_nil)))))) (fun x=>(⟨x.1,x.2.1,x.2.2.1,x.2.2.2.1,x.2.2.2.2.1⟩: Update)) (fun x=>rfl) (fun x h=>by exact ⟨h.1,h.2.1,h.2.2.1,h.2.2.2.1,h.2.2.2.2.1⟩)
def ConnParams.has (x:ConnParams): Prop:=IntKind.has .u32 x.Access∧IntKind.has .u32 x.Init∧Update.has x.Update∧IntKind.has .u64 x.Map∧IntKind.has .i64 x.Hop∧IntKind.has .i64 x.PPM∧IntKind.has .i64 x.Algorithm
theorem ConnParams.opn {H:Type} {enc:TypeId×Value→H} {w:World} {f:Bool}: Opn enc Tryz.prog S w f 46 ConnParams ConnParams.cells ConnParams.has :=
 opn_struct Tryz.underlying46 [41,41,43,44,3,3,3] (by kernel_rfl) (by kernel_rfl) (opnL_cons (opn_int Tryz.underlying41) (opnL_cons (opn_int Tryz.underlying41) (opnL_cons (Update.opn) (opnL_cons (opn_int Tryz.underlying44) (opnL_cons (opn_int Tryz.underlying3) (opnL_cons (opn_int Tryz.underlying3) (opnL_cons (opn_int Tryz.underlying3) (opnL_nil)))))))) (fun x=>(⟨x.1,x.2.1,x.2.2.1,x.2.2.2.1,x.2.2.2.2.1,x.2.2.2.2.2.1,x.2.2.2.2.2.2.1⟩: ConnParams)) (fun x=>rfl) (fun x h=>by exact ⟨h.1,h.2.1,h.2.2.1,h.2.2.2.1,h.2.2.2.2.1,h.2.2.2.2.2.1,h.2.2.2.2.2.2.1⟩)
def AdvPDU.has (x:AdvPDU): Prop:=IntKind.has .i64 x.Kind∧Address.has x.Sender∧Address.has x.Target∧((∀y∈x.Data,IntKind.has .u8 y)∧x.Data.length*1≤140737488351232)∧ConnParams.has x.Conn
theorem AdvPDU.opn {H:Type} {enc:TypeId×Value→H} {w:World} {f:Bool}: Opn enc Tryz.prog S w f 48 AdvPDU AdvPDU.cells AdvPDU.has :=
 opn_struct Tryz.underlying48 [3,26,26,40,46] (by kernel_rfl) (by kernel_rfl) (opnL_cons (opn_int Tryz.underlying3) (opnL_cons (Address.opn) (opnL_cons (Address.opn) (opnL_cons (opn_slice (S:=S) (e:=5) Tryz.underlying40 (by kernel_rfl) (sigOk.pos _) (fun x=>sigOk.len _ x) (nb:=1) (by kernel_rfl) (opn_int Tryz.underlying5)) (opnL_cons (ConnParams.opn) (opnL_nil)))))) (fun x=>(⟨x.1,x.2.1,x.2.2.1,x.2.2.2.1,x.2.2.2.2.1⟩: AdvPDU)) (fun x=>rfl) (fun x h=>by exact ⟨h.1,h.2.1,h.2.2.1,h.2.2.2.1,h.2.2.2.2.1⟩)
def Law22Op.has (x:Law22Op): Prop:=IntKind.has .i64 x.Do∧IntKind.has .i64 x.Wait∧AdvPDU.has x.PDU∧IntKind.has .i64 x.Channel
theorem Law22Op.opn {H:Type} {enc:TypeId×Value→H} {w:World} {f:Bool}: Opn enc Tryz.prog S w f 50 Law22Op Law22Op.cells Law22Op.has :=
 opn_struct Tryz.underlying50 [3,3,48,3] (by kernel_rfl) (by kernel_rfl) (opnL_cons (opn_int Tryz.underlying3) (opnL_cons (opn_int Tryz.underlying3) (opnL_cons (AdvPDU.opn) (opnL_cons (opn_int Tryz.underlying3) (opnL_nil))))) (fun x=>(⟨x.1,x.2.1,x.2.2.1,x.2.2.2.1⟩: Law22Op)) (fun x=>rfl) (fun x h=>by exact ⟨h.1,h.2.1,h.2.2.1,h.2.2.2.1⟩)
end Go.Aw.W
