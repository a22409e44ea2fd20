/- The data of the seat, typed: structs, the elements of slices, how they lie in cells (printed by gen_sig.py). -/
import Derived.Test.YtlnbhdcaebmffaaRows
import Derived.Test.YtlnbhdcaebmffaaXAwN
import Derived.Test.YtlnbhdcaebmffaaXAwU
set_option linter.unusedVariables false
namespace Go.Aw.W
open Go Go.Aw Go.Proofs
structure Update where
 WinSize:Int
 WinOffset:Int
 Interval:Int
 Latency:Int
 Timeout:Int
@[reducible] def Update.zero:Update:=⟨0,0,0,0,0⟩
structure Control where
 Kind:Int
 Update:Update
 Map:Int
 Instant:Int
 Reason:Int
 Rejected:Int
 Salt:Int
 Mark:Int
 Features:Int
 Version:Int
 Length:Int
@[reducible] def Control.zero:Control:=⟨0,Update.zero,0,0,0,0,0,0,0,0,0⟩
structure Change where
 Kind:Int
 Instant:Int
 Update:Update
 Map:Int
@[reducible] def Change.zero:Change:=⟨0,0,Update.zero,0⟩
structure Procs where
 Role:Int
 Own:Int
 Since:Int
 Waiting:List Control
 Other:Int
 OtherTime:Int
 Pending:List Change
 Told:Bool
 Features:Int
 Common:Int
 Known:Bool
 VersionTx:Bool
 Version:Int
 Length:Int
 Limit:Int
 Salt:Int
 Peer:Int
 Mark:Int
 Crypt:Int
 Ended:Int
@[reducible] def Procs.zero:Procs:=⟨0,0,0,[],0,0,[],false,0,0,false,false,0,0,0,0,0,0,0,0⟩
structure Packet where
 LLID:Int
 Payload:List Int
@[reducible] def Packet.zero:Packet:=⟨0,[]⟩
structure Indication where
 Kind:Int
 Event:Int
 Packet:Packet
 Change:Change
 Number:Int
 Update:Update
@[reducible] def Indication.zero:Indication:=⟨0,0,Packet.zero,Change.zero,0,Update.zero⟩
structure Law28Move where
 Side:Int
 Act:Bool
 Control:Control
 Arrive_0:Int
 Arrive_1:Int
@[reducible] def Law28Move.zero:Law28Move:=⟨0,false,Control.zero,0,0⟩
structure Law28Talk where
 Features_0:Int
 Features_1:Int
 Limits_0:Int
 Limits_1:Int
 Found:Bool
 Salt:Int
 Moves:List Law28Move
@[reducible] def Law28Talk.zero:Law28Talk:=⟨0,0,0,0,false,0,[]⟩
structure Law28applied where
 event:Int
 change:Change
@[reducible] def Law28applied.zero:Law28applied:=⟨0,Change.zero⟩
structure Law28exchange where
 sides_0:Procs
 sides_1:Procs
 queues_0:List Control
 queues_1:List Control
 done_0:List Law28applied
 done_1:List Law28applied
 versions_0:Int
 versions_1:Int
 event:Int
 now:Int
@[reducible] def Law28exchange.zero:Law28exchange:=⟨Procs.zero,Procs.zero,[],[],[],[],0,0,0,0⟩
structure Ref26Uses where
 Known:Bool
 Update:Bool
 Map:Bool
 Instant:Bool
 Reason:Bool
 Rejected:Bool
 Salt:Bool
 Mark:Bool
 Features:Bool
 Version:Bool
 Length:Bool
@[reducible] def Ref26Uses.zero:Ref26Uses:=⟨false,false,false,false,false,false,false,false,false,false,false⟩
structure Field where
 Size:Int
 Value:Int
@[reducible] def Field.zero:Field:=⟨0,0⟩
structure ProcedureSide where
 Procs:Procs
 event:Int
 now:Int
 out:List Control
 told:List Indication
@[reducible] def ProcedureSide.zero:ProcedureSide:=⟨Procs.zero,0,0,[],[]⟩
structure ConnectSpan where
 n:Int
 low:Int
 high:Int
@[reducible] def ConnectSpan.zero:ConnectSpan:=⟨0,0,0⟩
structure Arr72 where
 e0:Procs
 e1:Procs
@[reducible] def Arr72.zero:Arr72:=⟨Procs.zero,Procs.zero⟩
inductive Ek where
 | e3
 | e5
 | e24
 | e28
 | e33
 | e59
 | e61
 | e76
 | e78
 | e97
 | e117
 | e144
 | other
@[reducible] def EkT:Ek→Type
 | .e3=>Int
 | .e5=>Int
 | .e24=>Int
 | .e28=>Control
 | .e33=>List Int
 | .e59=>Change
 | .e61=>Indication
 | .e76=>Law28exchange
 | .e78=>Law28applied
 | .e97=>Field
 | .e117=>Law28Move
 | .e144=>ConnectSpan
 | .other=>Unit
@[reducible] def ek:TypeId→Ek
 | 3 => .e3
 | 5 => .e5
 | 24 => .e24
 | 28 => .e28
 | 33 => .e33
 | 59 => .e59
 | 61 => .e61
 | 76 => .e76
 | 78 => .e78
 | 97 => .e97
 | 117 => .e117
 | 144 => .e144
 | _ => .other
@[reducible] def El (t:TypeId): Type:=EkT (ek t)
def Update.cells (x:Update): List (AV El):= [.v (.int .i64 x.WinSize), .v (.int .i64 x.WinOffset), .v (.int .i64 x.Interval), .v (.int .i64 x.Latency), .v (.int .i64 x.Timeout)]
def Update.av (x:Update): AV El:=.agg x.cells
def Update.dec (cs:List (AV El)): Option Update:=popI .i64 cs fun a0 c0=>popI .i64 c0 fun a1 c1=>popI .i64 c1 fun a2 c2=>popI .i64 c2 fun a3 c3=>popI .i64 c3 fun a4 c4=>popE c4 ⟨a0,a1,a2,a3,a4⟩
def Control.cells (x:Control): List (AV El):= [.v (.int .i64 x.Kind), .v (.int .i64 x.Update.WinSize), .v (.int .i64 x.Update.WinOffset), .v (.int .i64 x.Update.Interval), .v (.int .i64 x.Update.Latency), .v (.int .i64 x.Update.Timeout), .v (.int .u64 x.Map), .v (.int .u16 x.Instant), .v (.int .i64 x.Reason), .v (.int .i64 x.Rejected), .v (.int .u64 x.Salt), .v (.int .u64 x.Mark), .v (.int .u64 x.Features), .v (.int .i64 x.Version), .v (.int .i64 x.Length)]
def Control.av (x:Control): AV El:=.agg x.cells
def Control.dec (cs:List (AV El)): Option Control:=popI .i64 cs fun a0 c0=>popI .i64 c0 fun a1 c1=>popI .i64 c1 fun a2 c2=>popI .i64 c2 fun a3 c3=>popI .i64 c3 fun a4 c4=>popI .i64 c4 fun a5 c5=>popI .u64 c5 fun a6 c6=>popI .u16 c6 fun a7 c7=>popI .i64 c7 fun a8 c8=>popI .i64 c8 fun a9 c9=>popI .u64 c9 fun a10 c10=>popI .u64 c10 fun a11 c11=>popI .u64 c11 fun a12 c12=>popI .i64 c12 fun a13 c13=>popI .i64 c13 fun a14 c14=>popE c14 ⟨a0,⟨a1,a2,a3,a4,a5⟩,a6,a7,a8,a9,a10,a11,a12,a13,a14⟩
def Change.cells (x:Change): List (AV El):= [.v (.int .i64 x.Kind), .v (.int .u16 x.Instant), .v (.int .i64 x.Update.WinSize), .v (.int .i64 x.Update.WinOffset), .v (.int .i64 x.Update.Interval), .v (.int .i64 x.Update.Latency), .v (.int .i64 x.Update.Timeout), .v (.int .u64 x.Map)]
def Change.av (x:Change): AV El:=.agg x.cells
def Change.dec (cs:List (AV El)): Option Change:=popI .i64 cs fun a0 c0=>popI .u16 c0 fun a1 c1=>popI .i64 c1 fun a2 c2=>popI .i64 c2 fun a3 c3=>popI .i64 c3 fun a4 c4=>popI .i64 c4 fun a5 c5=>popI .i64 c5 fun a6 c6=>popI .u64 c6 fun a7 c7=>popE c7 ⟨a0,a1,⟨a2,a3,a4,a5,a6⟩,a7⟩
def Procs.cells (x:Procs): List (AV El):= [.v (.int .i64 x.Role), .v (.int .i64 x.Own), .v (.int .i64 x.Since), .sl 28 (x.Waiting:List (El 28)) false, .v (.int .i64 x.Other), .v (.int .i64 x.OtherTime), .sl 59 (x.Pending:List (El 59)) false, .v (.bool x.Told), .v (.int .u64 x.Features), .v (.int .u64 x.Common), .v (.bool x.Known), .v (.bool x.VersionTx), .v (.int .i64 x.Version), .v (.int .i64 x.Length), .v (.int .i64 x.Limit), .v (.int .u64 x.Salt), .v (.int .u64 x.Peer), .v (.int .u64 x.Mark), .v (.int .i64 x.Crypt), .v (.int .i64 x.Ended)]
def Procs.av (x:Procs): AV El:=.agg x.cells
def Procs.dec (cs:List (AV El)): Option Procs:=popI .i64 cs fun a0 c0=>popI .i64 c0 fun a1 c1=>popI .i64 c1 fun a2 c2=>popS 28 c2 fun a3 c3=>popI .i64 c3 fun a4 c4=>popI .i64 c4 fun a5 c5=>popS 59 c5 fun a6 c6=>popB c6 fun a7 c7=>popI .u64 c7 fun a8 c8=>popI .u64 c8 fun a9 c9=>popB c9 fun a10 c10=>popB c10 fun a11 c11=>popI .i64 c11 fun a12 c12=>popI .i64 c12 fun a13 c13=>popI .i64 c13 fun a14 c14=>popI .u64 c14 fun a15 c15=>popI .u64 c15 fun a16 c16=>popI .u64 c16 fun a17 c17=>popI .i64 c17 fun a18 c18=>popI .i64 c18 fun a19 c19=>popE c19 ⟨a0,a1,a2,a3,a4,a5,a6,a7,a8,a9,a10,a11,a12,a13,a14,a15,a16,a17,a18,a19⟩
def Packet.cells (x:Packet): List (AV El):= [.v (.int .i64 x.LLID), .sl 5 (x.Payload:List (El 5)) false]
def Packet.av (x:Packet): AV El:=.agg x.cells
def Packet.dec (cs:List (AV El)): Option Packet:=popI .i64 cs fun a0 c0=>popS 5 c0 fun a1 c1=>popE c1 ⟨a0,a1⟩
def Indication.cells (x:Indication): List (AV El):= [.v (.int .i64 x.Kind), .v (.int .u16 x.Event), .v (.int .i64 x.Packet.LLID), .sl 5 (x.Packet.Payload:List (El 5)) false, .v (.int .i64 x.Change.Kind), .v (.int .u16 x.Change.Instant), .v (.int .i64 x.Change.Update.WinSize), .v (.int .i64 x.Change.Update.WinOffset), .v (.int .i64 x.Change.Update.Interval), .v (.int .i64 x.Change.Update.Latency), .v (.int .i64 x.Change.Update.Timeout), .v (.int .u64 x.Change.Map), .v (.int .u64 x.Number), .v (.int .i64 x.Update.WinSize), .v (.int .i64 x.Update.WinOffset), .v (.int .i64 x.Update.Interval), .v (.int .i64 x.Update.Latency), .v (.int .i64 x.Update.Timeout)]
def Indication.av (x:Indication): AV El:=.agg x.cells
def Indication.dec (cs:List (AV El)): Option Indication:=popI .i64 cs fun a0 c0=>popI .u16 c0 fun a1 c1=>popI .i64 c1 fun a2 c2=>popS 5 c2 fun a3 c3=>popI .i64 c3 fun a4 c4=>popI .u16 c4 fun a5 c5=>popI .i64 c5 fun a6 c6=>popI .i64 c6 fun a7 c7=>popI .i64 c7 fun a8 c8=>popI .i64 c8 fun a9 c9=>popI .i64 c9 fun a10 c10=>popI .u64 c10 fun a11 c11=>popI .u64 c11 fun a12 c12=>popI .i64 c12 fun a13 c13=>popI .i64 c13 fun a14 c14=>popI .i64 c14 fun a15 c15=>popI .i64 c15 fun a16 c16=>popI .i64 c16 fun a17 c17=>popE c17 ⟨a0,a1,⟨a2,a3⟩,⟨a4,a5,⟨a6,a7,a8,a9,a10⟩,a11⟩,a12,⟨a13,a14,a15,a16,a17⟩⟩
def Law28Move.cells (x:Law28Move): List (AV El):= [.v (.int .u8 x.Side), .v (.bool x.Act), .v (.int .i64 x.Control.Kind), .v (.int .i64 x.Control.Update.WinSize), .v (.int .i64 x.Control.Update.WinOffset), .v (.int .i64 x.Control.Update.Interval), .v (.int .i64 x.Control.Update.Latency), .v (.int .i64 x.Control.Update.Timeout), .v (.int .u64 x.Control.Map), .v (.int .u16 x.Control.Instant), .v (.int .i64 x.Control.Reason), .v (.int .i64 x.Control.Rejected), .v (.int .u64 x.Control.Salt), .v (.int .u64 x.Control.Mark), .v (.int .u64 x.Control.Features), .v (.int .i64 x.Control.Version), .v (.int .i64 x.Control.Length), .v (.int .u8 x.Arrive_0), .v (.int .u8 x.Arrive_1)]
def Law28Move.av (x:Law28Move): AV El:=.agg x.cells
def Law28Move.dec (cs:List (AV El)): Option Law28Move:=popI .u8 cs fun a0 c0=>popB c0 fun a1 c1=>popI .i64 c1 fun a2 c2=>popI .i64 c2 fun a3 c3=>popI .i64 c3 fun a4 c4=>popI .i64 c4 fun a5 c5=>popI .i64 c5 fun a6 c6=>popI .i64 c6 fun a7 c7=>popI .u64 c7 fun a8 c8=>popI .u16 c8 fun a9 c9=>popI .i64 c9 fun a10 c10=>popI .i64 c10 fun a11 c11=>popI .u64 c11 fun a12 c12=>popI .u64 c12 fun a13 c13=>popI .u64 c13 fun a14 c14=>popI .i64 c14 fun a15 c15=>popI .i64 c15 fun a16 c16=>popI .u8 c16 fun a17 c17=>popI .u8 c17 fun a18 c18=>popE c18 ⟨a0,a1,⟨a2,⟨a3,a4,a5,a6,a7⟩,a8,a9,a10,a11,a12,a13,a14,a15,a16⟩,a17,a18⟩
def Law28Talk.cells (x:Law28Talk): List (AV El):= [.v (.int .u64 x.Features_0), .v (.int .u64 x.Features_1), .v (.int .i64 x.Limits_0), .v (.int .i64 x.Limits_1), .v (.bool x.Found), .v (.int .u64 x.Salt), .sl 117 (x.Moves:List (El 117)) false]
def Law28Talk.av (x:Law28Talk): AV El:=.agg x.cells
def Law28Talk.dec (cs:List (AV El)): Option Law28Talk:=popI .u64 cs fun a0 c0=>popI .u64 c0 fun a1 c1=>popI .i64 c1 fun a2 c2=>popI .i64 c2 fun a3 c3=>popB c3 fun a4 c4=>popI .u64 c4 fun a5 c5=>popS 117 c5 fun a6 c6=>popE c6 ⟨a0,a1,a2,a3,a4,a5,a6⟩
def Law28applied.cells (x:Law28applied): List (AV El):= [.v (.int .u16 x.event), .v (.int .i64 x.change.Kind), .v (.int .u16 x.change.Instant), .v (.int .i64 x.change.Update.WinSize), .v (.int .i64 x.change.Update.WinOffset), .v (.int .i64 x.change.Update.Interval), .v (.int .i64 x.change.Update.Latency), .v (.int .i64 x.change.Update.Timeout), .v (.int .u64 x.change.Map)]
def Law28applied.av (x:Law28applied): AV El:=.agg x.cells
def Law28applied.dec (cs:List (AV El)): Option Law28applied:=popI .u16 cs fun a0 c0=>popI .i64 c0 fun a1 c1=>popI .u16 c1 fun a2 c2=>popI .i64 c2 fun a3 c3=>popI .i64 c3 fun a4 c4=>popI .i64 c4 fun a5 c5=>popI .i64 c5 fun a6 c6=>popI .i64 c6 fun a7 c7=>popI .u64 c7 fun a8 c8=>popE c8 ⟨a0,⟨a1,a2,⟨a3,a4,a5,a6,a7⟩,a8⟩⟩
def Law28exchange.cells (x:Law28exchange): List (AV El):= [.v (.int .i64 x.sides_0.Role), .v (.int .i64 x.sides_0.Own), .v (.int .i64 x.sides_0.Since), .sl 28 (x.sides_0.Waiting:List (El 28)) false, .v (.int .i64 x.sides_0.Other), .v (.int .i64 x.sides_0.OtherTime), .sl 59 (x.sides_0.Pending:List (El 59)) false, .v (.bool x.sides_0.Told), .v (.int .u64 x.sides_0.Features), .v (.int .u64 x.sides_0.Common), .v (.bool x.sides_0.Known), .v (.bool x.sides_0.VersionTx), .v (.int .i64 x.sides_0.Version), .v (.int .i64 x.sides_0.Length), .v (.int .i64 x.sides_0.Limit), .v (.int .u64 x.sides_0.Salt), .v (.int .u64 x.sides_0.Peer), .v (.int .u64 x.sides_0.Mark), .v (.int .i64 x.sides_0.Crypt), .v (.int .i64 x.sides_0.Ended), .v (.int .i64 x.sides_1.Role), .v (.int .i64 x.sides_1.Own), .v (.int .i64 x.sides_1.Since), .sl 28 (x.sides_1.Waiting:List (El 28)) false, .v (.int .i64 x.sides_1.Other), .v (.int .i64 x.sides_1.OtherTime), .sl 59 (x.sides_1.Pending:List (El 59)) false, .v (.bool x.sides_1.Told), .v (.int .u64 x.sides_1.Features), .v (.int .u64 x.sides_1.Common), .v (.bool x.sides_1.Known), .v (.bool x.sides_1.VersionTx), .v (.int .i64 x.sides_1.Version), .v (.int .i64 x.sides_1.Length), .v (.int .i64 x.sides_1.Limit), .v (.int .u64 x.sides_1.Salt), .v (.int .u64 x.sides_1.Peer), .v (.int .u64 x.sides_1.Mark), .v (.int .i64 x.sides_1.Crypt), .v (.int .i64 x.sides_1.Ended), .sl 28 (x.queues_0:List (El 28)) false, .sl 28 (x.queues_1:List (El 28)) false, .sl 78 (x.done_0:List (El 78)) false, .sl 78 (x.done_1:List (El 78)) false, .v (.int .i64 x.versions_0), .v (.int .i64 x.versions_1), .v (.int .u16 x.event), .v (.int .i64 x.now)]
def Law28exchange.av (x:Law28exchange): AV El:=.agg x.cells
def Law28exchange.dec (cs:List (AV El)): Option Law28exchange:=popI .i64 cs fun a0 c0=>popI .i64 c0 fun a1 c1=>popI .i64 c1 fun a2 c2=>popS 28 c2 fun a3 c3=>popI .i64 c3 fun a4 c4=>popI .i64 c4 fun a5 c5=>popS 59 c5 fun a6 c6=>popB c6 fun a7 c7=>popI .u64 c7 fun a8 c8=>popI .u64 c8 fun a9 c9=>popB c9 fun a10 c10=>popB c10 fun a11 c11=>popI .i64 c11 fun a12 c12=>popI .i64 c12 fun a13 c13=>popI .i64 c13 fun a14 c14=>popI .u64 c14 fun a15 c15=>popI .u64 c15 fun a16 c16=>popI .u64 c16 fun a17 c17=>popI .i64 c17 fun a18 c18=>popI .i64 c18 fun a19 c19=>popI .i64 c19 fun a20 c20=>popI .i64 c20 fun a21 c21=>popI .i64 c21 fun a22 c22=>popS 28 c22 fun a23 c23=>popI .i64 c23 fun a24 c24=>popI .i64 c24 fun a25 c25=>popS 59 c25 fun a26 c26=>popB c26 fun a27 c27=>popI .u64 c27 fun a28 c28=>popI .u64 c28 fun a29 c29=>popB c29 fun a30 c30=>popB c30 fun a31 c31=>popI .i64 c31 fun a32 c32=>popI .i64 c32 fun a33 c33=>popI .i64 c33 fun a34 c34=>popI .u64 c34 fun a35 c35=>popI .u64 c35 fun a36 c36=>popI .u64 c36 fun a37 c37=>popI .i64 c37 fun a38 c38=>popI .i64 c38 fun a39 c39=>popS 28 c39 fun a40 c40=>popS 28 c40 fun a41 c41=>popS 78 c41 fun a42 c42=>popS 78 c42 fun a43 c43=>popI .i64 c43 fun a44 c44=>popI .i64 c44 fun a45 c45=>popI .u16 c45 fun a46 c46=>popI .i64 c46 fun a47 c47=>popE c47 ⟨⟨a0,a1,a2,a3,a4,a5,a6,a7,a8,a9,a10,a11,a12,a13,a14,a15,a16,a17,a18,a19⟩,⟨a20,a21,a22,a23,a24,a25,a26,a27,a28,a29,a30,a31,a32,a33,a34,a35,a36,a37,a38,a39⟩,a40,a41,a42,a43,a44,a45,a46,a47⟩
def Ref26Uses.cells (x:Ref26Uses): List (AV El):= [.v (.bool x.Known), .v (.bool x.Update), .v (.bool x.Map), .v (.bool x.Instant), .v (.bool x.Reason), .v (.bool x.Rejected), .v (.bool x.Salt), .v (.bool x.Mark), .v (.bool x.Features), .v (.bool x.Version), .v (.bool x.Length)]
def Ref26Uses.av (x:Ref26Uses): AV El:=.agg x.cells
def Ref26Uses.dec (cs:List (AV El)): Option Ref26Uses:=popB cs fun a0 c0=>popB c0 fun a1 c1=>popB c1 fun a2 c2=>popB c2 fun a3 c3=>popB c3 fun a4 c4=>popB c4 fun a5 c5=>popB c5 fun a6 c6=>popB c6 fun a7 c7=>popB c7 fun a8 c8=>popB c8 fun a9 c9=>popB c9 fun a10 c10=>popE c10 ⟨a0,a1,a2,a3,a4,a5,a6,a7,a8,a9,a10⟩
def Field.cells (x:Field): List (AV El):= [.v (.int .i64 x.Size), .v (.int .u64 x.Value)]
def Field.av (x:Field): AV El:=.agg x.cells
def Field.dec (cs:List (AV El)): Option Field:=popI .i64 cs fun a0 c0=>popI .u64 c0 fun a1 c1=>popE c1 ⟨a0,a1⟩
def ProcedureSide.cells (x:ProcedureSide): List (AV El):= [.v (.int .i64 x.Procs.Role), .v (.int .i64 x.Procs.Own), .v (.int .i64 x.Procs.Since), .sl 28 (x.Procs.Waiting:List (El 28)) false, .v (.int .i64 x.Procs.Other), .v (.int .i64 x.Procs.OtherTime), .sl 59 (x.Procs.Pending:List (El 59)) false, .v (.bool x.Procs.Told), .v (.int .u64 x.Procs.Features), .v (.int .u64 x.Procs.Common), .v (.bool x.Procs.Known), .v (.bool x.Procs.VersionTx), .v (.int .i64 x.Procs.Version), .v (.int .i64 x.Procs.Length), .v (.int .i64 x.Procs.Limit), .v (.int .u64 x.Procs.Salt), .v (.int .u64 x.Procs.Peer), .v (.int .u64 x.Procs.Mark), .v (.int .i64 x.Procs.Crypt), .v (.int .i64 x.Procs.Ended), .v (.int .u16 x.event), .v (.int .i64 x.now), .sl 28 (x.out:List (El 28)) false, .sl 61 (x.told:List (El 61)) false]
def ProcedureSide.av (x:ProcedureSide): AV El:=.agg x.cells
def ProcedureSide.dec (cs:List (AV El)): Option ProcedureSide:=popI .i64 cs fun a0 c0=>popI .i64 c0 fun a1 c1=>popI .i64 c1 fun a2 c2=>popS 28 c2 fun a3 c3=>popI .i64 c3 fun a4 c4=>popI .i64 c4 fun a5 c5=>popS 59 c5 fun a6 c6=>popB c6 fun a7 c7=>popI .u64 c7 fun a8 c8=>popI .u64 c8 fun a9 c9=>popB c9 fun a10 c10=>popB c10 fun a11 c11=>popI .i64 c11 fun a12 c12=>popI .i64 c12 fun a13 c13=>popI .i64 c13 fun a14 c14=>popI .u64 c14 fun a15 c15=>popI .u64 c15 fun a16 c16=>popI .u64 c16 fun a17 c17=>popI .i64 c17 fun a18 c18=>popI .i64 c18 fun a19 c19=>popI .u16 c19 fun a20 c20=>popI .i64 c20 fun a21 c21=>popS 28 c21 fun a22 c22=>popS 61 c22 fun a23 c23=>popE c23 ⟨⟨a0,a1,a2,a3,a4,a5,a6,a7,a8,a9,a10,a11,a12,a13,a14,a15,a16,a17,a18,a19⟩,a20,a21,a22,a23⟩
def ConnectSpan.cells (x:ConnectSpan): List (AV El):= [.v (.int .i64 x.n), .v (.int .i64 x.low), .v (.int .i64 x.high)]
def ConnectSpan.av (x:ConnectSpan): AV El:=.agg x.cells
def ConnectSpan.dec (cs:List (AV El)): Option ConnectSpan:=popI .i64 cs fun a0 c0=>popI .i64 c0 fun a1 c1=>popI .i64 c1 fun a2 c2=>popE c2 ⟨a0,a1,a2⟩
def Arr72.cells (x:Arr72): List (AV El):= [.v (.int .i64 x.e0.Role), .v (.int .i64 x.e0.Own), .v (.int .i64 x.e0.Since), .sl 28 (x.e0.Waiting:List (El 28)) false, .v (.int .i64 x.e0.Other), .v (.int .i64 x.e0.OtherTime), .sl 59 (x.e0.Pending:List (El 59)) false, .v (.bool x.e0.Told), .v (.int .u64 x.e0.Features), .v (.int .u64 x.e0.Common), .v (.bool x.e0.Known), .v (.bool x.e0.VersionTx), .v (.int .i64 x.e0.Version), .v (.int .i64 x.e0.Length), .v (.int .i64 x.e0.Limit), .v (.int .u64 x.e0.Salt), .v (.int .u64 x.e0.Peer), .v (.int .u64 x.e0.Mark), .v (.int .i64 x.e0.Crypt), .v (.int .i64 x.e0.Ended), .v (.int .i64 x.e1.Role), .v (.int .i64 x.e1.Own), .v (.int .i64 x.e1.Since), .sl 28 (x.e1.Waiting:List (El 28)) false, .v (.int .i64 x.e1.Other), .v (.int .i64 x.e1.OtherTime), .sl 59 (x.e1.Pending:List (El 59)) false, .v (.bool x.e1.Told), .v (.int .u64 x.e1.Features), .v (.int .u64 x.e1.Common), .v (.bool x.e1.Known), .v (.bool x.e1.VersionTx), .v (.int .i64 x.e1.Version), .v (.int .i64 x.e1.Length), .v (.int .i64 x.e1.Limit), .v (.int .u64 x.e1.Salt), .v (.int .u64 x.e1.Peer), .v (.int .u64 x.e1.Mark), .v (.int .i64 x.e1.Crypt), .v (.int .i64 x.e1.Ended)]
def Arr72.av (x:Arr72): AV El:=.agg x.cells
def Arr72.dec (cs:List (AV El)): Option Arr72:=popI .i64 cs fun a0 c0=>popI .i64 c0 fun a1 c1=>popI .i64 c1 fun a2 c2=>popS 28 c2 fun a3 c3=>popI .i64 c3 fun a4 c4=>popI .i64 c4 fun a5 c5=>popS 59 c5 fun a6 c6=>popB c6 fun a7 c7=>popI .u64 c7 fun a8 c8=>popI .u64 c8 fun a9 c9=>popB c9 fun a10 c10=>popB c10 fun a11 c11=>popI .i64 c11 fun a12 c12=>popI .i64 c12 fun a13 c13=>popI .i64 c13 fun a14 c14=>popI .u64 c14 fun a15 c15=>popI .u64 c15 fun a16 c16=>popI .u64 c16 fun a17 c17=>popI .i64 c17 fun a18 c18=>popI .i64 c18 fun a19 c19=>popI .i64 c19 fun a20 c20=>popI .i64 c20 fun a21 c21=>popI .i64 c21 fun a22 c22=>popS 28 c22 fun a23 c23=>popI .i64 c23 fun a24 c24=>popI .i64 c24 fun a25 c25=>popS 59 c25 fun a26 c26=>popB c26 fun a27 c27=>popI .u64 c27 fun a28 c28=>popI .u64 c28 fun a29 c29=>popB c29 fun a30 c30=>popB c30 fun a31 c31=>popI .i64 c31 fun a32 c32=>popI .i64 c32 fun a33 c33=>popI .i64 c33 fun a34 c34=>popI .u64 c34 fun a35 c35=>popI .u64 c35 fun a36 c36=>popI .u64 c36 fun a37 c37=>popI .i64 c37 fun a38 c38=>popI .i64 c38 fun a39 c39=>popE c39 ⟨⟨a0,a1,a2,a3,a4,a5,a6,a7,a8,a9,a10,a11,a12,a13,a14,a15,a16,a17,a18,a19⟩,⟨a20,a21,a22,a23,a24,a25,a26,a27,a28,a29,a30,a31,a32,a33,a34,a35,a36,a37,a38,a39⟩⟩
def ekSz:Ek→Nat
 | .e3=>1
 | .e5=>1
 | .e24=>1
 | .e28=>15
 | .e33=>1
 | .e59=>8
 | .e61=>18
 | .e76=>48
 | .e78=>9
 | .e97=>2
 | .e117=>19
 | .e144=>3
 | .other=>1
def ekZ : ∀e,EkT e
 | .e3=>(0:Int)
 | .e5=>(0:Int)
 | .e24=>(0:Int)
 | .e28=>(Control.zero:Control)
 | .e33=>([]: List Int)
 | .e59=>(Change.zero:Change)
 | .e61=>(Indication.zero:Indication)
 | .e76=>(Law28exchange.zero:Law28exchange)
 | .e78=>(Law28applied.zero:Law28applied)
 | .e97=>(Field.zero:Field)
 | .e117=>(Law28Move.zero:Law28Move)
 | .e144=>(ConnectSpan.zero:ConnectSpan)
 | .other=>()
def ekCells : ∀e,EkT e→List (AV El)
 | .e3,x=>[.v (.int .i64 x)]
 | .e5,x=>[.v (.int .u8 x)]
 | .e24,x=>[.v (.int .u64 x)]
 | .e28,x=>Control.cells x
 | .e33,x=>[.sl 5 (x:List (El 5)) false]
 | .e59,x=>Change.cells x
 | .e61,x=>Indication.cells x
 | .e76,x=>Law28exchange.cells x
 | .e78,x=>Law28applied.cells x
 | .e97,x=>Field.cells x
 | .e117,x=>Law28Move.cells x
 | .e144,x=>ConnectSpan.cells x
 | .other,_=>[.v (.bool false)]
def ekDec : ∀e,List (AV El)→Option (EkT e)
 | .e3,cs=>popI .i64 cs fun a0 c0=>popE c0 a0
 | .e5,cs=>popI .u8 cs fun a0 c0=>popE c0 a0
 | .e24,cs=>popI .u64 cs fun a0 c0=>popE c0 a0
 | .e28,cs=>Control.dec cs
 | .e33,cs=>popS 5 cs fun a0 c0=>popE c0 a0
 | .e59,cs=>Change.dec cs
 | .e61,cs=>Indication.dec cs
 | .e76,cs=>Law28exchange.dec cs
 | .e78,cs=>Law28applied.dec cs
 | .e97,cs=>Field.dec cs
 | .e117,cs=>Law28Move.dec cs
 | .e144,cs=>ConnectSpan.dec cs
 | .other,_=>none
def ekBytes : ∀e,Option (ByteArray→List (EkT e))
 | .e5=>some bytesI
 | _=>none
def ekInts : ∀e,Option (List (EkT e)→List Int)
 | .e5=>some id
 | _=>none
@[reducible] def globs:Nat→AV El:=fun _ => .any
theorem globs_lt : ∀g,lt2 0 (globs g)= true:=fun _=>rfl
def S:Sig:={El:=El,dflt:=fun t=>ekZ (ek t),sz:=fun t=>ekSz (ek t),cell:=fun t x=>ekCells (ek t) x,dec:=fun t cs=>ekDec (ek t) cs,glob:=globs,ofBytes:=fun t=>ekBytes (ek t),toInts:=fun t=>ekInts (ek t)}
theorem Update.dec_ok : ∀cs x,Update.dec cs=some x→Imp (S:=S) cs (Update.cells x):= by
 intro cs x h
 unfold Update.dec at h
 obtain ⟨a0,c0,rfl,h0⟩:= popI_some (S:=S) h
 obtain ⟨a1,c1,rfl,h1⟩:= popI_some (S:=S) h0
 obtain ⟨a2,c2,rfl,h2⟩:= popI_some (S:=S) h1
 obtain ⟨a3,c3,rfl,h3⟩:= popI_some (S:=S) h2
 obtain ⟨a4,c4,rfl,h4⟩:= popI_some (S:=S) h3
 obtain ⟨rfl,rfl⟩:= popE_some (S:=S) h4
 exact (.cons (.cons (.cons (.cons (.cons (.refl _))))))
theorem Control.dec_ok : ∀cs x,Control.dec cs=some x→Imp (S:=S) cs (Control.cells x):= by
 intro cs x h
 unfold Control.dec at h
 obtain ⟨a0,c0,rfl,h0⟩:= popI_some (S:=S) h
 obtain ⟨a1,c1,rfl,h1⟩:= popI_some (S:=S) h0
 obtain ⟨a2,c2,rfl,h2⟩:= popI_some (S:=S) h1
 obtain ⟨a3,c3,rfl,h3⟩:= popI_some (S:=S) h2
 obtain ⟨a4,c4,rfl,h4⟩:= popI_some (S:=S) h3
 obtain ⟨a5,c5,rfl,h5⟩:= popI_some (S:=S) h4
 obtain ⟨a6,c6,rfl,h6⟩:= popI_some (S:=S) h5
 obtain ⟨a7,c7,rfl,h7⟩:= popI_some (S:=S) h6
 obtain ⟨a8,c8,rfl,h8⟩:= popI_some (S:=S) h7
 obtain ⟨a9,c9,rfl,h9⟩:= popI_some (S:=S) h8
 obtain ⟨a10,c10,rfl,h10⟩:= popI_some (S:=S) h9
 obtain ⟨a11,c11,rfl,h11⟩:= popI_some (S:=S) h10
 obtain ⟨a12,c12,rfl,h12⟩:= popI_some (S:=S) h11
 obtain ⟨a13,c13,rfl,h13⟩:= popI_some (S:=S) h12
 obtain ⟨a14,c14,rfl,h14⟩:= popI_some (S:=S) h13
 obtain ⟨rfl,rfl⟩:= popE_some (S:=S) h14
 exact (.cons (.cons (.cons (.cons (.cons (.cons (.cons (.cons (.cons (.cons (.cons (.cons (.cons (.cons (.cons (.refl _))))))))))))))))
theorem Change.dec_ok : ∀cs x,Change.dec cs=some x→Imp (S:=S) cs (Change.cells x):= by
 intro cs x h
 unfold Change.dec at h
 obtain ⟨a0,c0,rfl,h0⟩:= popI_some (S:=S) h
 obtain ⟨a1,c1,rfl,h1⟩:= popI_some (S:=S) h0
 obtain ⟨a2,c2,rfl,h2⟩:= popI_some (S:=S) h1
 obtain ⟨a3,c3,rfl,h3⟩:= popI_some (S:=S) h2
 obtain ⟨a4,c4,rfl,h4⟩:= popI_some (S:=S) h3
 obtain ⟨a5,c5,rfl,h5⟩:= popI_some (S:=S) h4
 obtain ⟨a6,c6,rfl,h6⟩:= popI_some (S:=S) h5
 obtain ⟨a7,c7,rfl,h7⟩:= popI_some (S:=S) h6
 obtain ⟨rfl,rfl⟩:= popE_some (S:=S) h7
 exact (.cons (.cons (.cons (.cons (.cons (.cons (.cons (.cons (.refl _)))))))))
theorem Procs.dec_ok : ∀cs x,Procs.dec cs=some x→Imp (S:=S) cs (Procs.cells x):= by
 intro cs x h
 unfold Procs.dec at h
 obtain ⟨a0,c0,rfl,h0⟩:= popI_some (S:=S) h
 obtain ⟨a1,c1,rfl,h1⟩:= popI_some (S:=S) h0
 obtain ⟨a2,c2,rfl,h2⟩:= popI_some (S:=S) h1
 obtain ⟨a3,c3,h3,k3⟩:= popS_some (S:=S) h2
 obtain ⟨a4,c4,rfl,h4⟩:= popI_some (S:=S) h3
 obtain ⟨a5,c5,rfl,h5⟩:= popI_some (S:=S) h4
 obtain ⟨a6,c6,h6,k6⟩:= popS_some (S:=S) h5
 obtain ⟨a7,c7,rfl,h7⟩:= popB_some (S:=S) h6
 obtain ⟨a8,c8,rfl,h8⟩:= popI_some (S:=S) h7
 obtain ⟨a9,c9,rfl,h9⟩:= popI_some (S:=S) h8
 obtain ⟨a10,c10,rfl,h10⟩:= popB_some (S:=S) h9
 obtain ⟨a11,c11,rfl,h11⟩:= popB_some (S:=S) h10
 obtain ⟨a12,c12,rfl,h12⟩:= popI_some (S:=S) h11
 obtain ⟨a13,c13,rfl,h13⟩:= popI_some (S:=S) h12
 obtain ⟨a14,c14,rfl,h14⟩:= popI_some (S:=S) h13
 obtain ⟨a15,c15,rfl,h15⟩:= popI_some (S:=S) h14
 obtain ⟨a16,c16,rfl,h16⟩:= popI_some (S:=S) h15
 obtain ⟨a17,c17,rfl,h17⟩:= popI_some (S:=S) h16
 obtain ⟨a18,c18,rfl,h18⟩:= popI_some (S:=S) h17
 obtain ⟨a19,c19,rfl,h19⟩:= popI_some (S:=S) h18
 obtain ⟨rfl,rfl⟩:= popE_some (S:=S) h19
 exact (.cons (.cons (.cons (k3 _ (.cons (.cons (k6 _ (.cons (.cons (.cons (.cons (.cons (.cons (.cons (.cons (.cons (.cons (.cons (.cons (.cons (.refl _)))))))))))))))))))))
theorem Packet.dec_ok : ∀cs x,Packet.dec cs=some x→Imp (S:=S) cs (Packet.cells x):= by
 intro cs x h
 unfold Packet.dec at h
 obtain ⟨a0,c0,rfl,h0⟩:= popI_some (S:=S) h
 obtain ⟨a1,c1,h1,k1⟩:= popS_some (S:=S) h0
 obtain ⟨rfl,rfl⟩:= popE_some (S:=S) h1
 exact (.cons (k1 _ (.refl _)))
theorem Indication.dec_ok : ∀cs x,Indication.dec cs=some x→Imp (S:=S) cs (Indication.cells x):= by
 intro cs x h
 unfold Indication.dec at h
 obtain ⟨a0,c0,rfl,h0⟩:= popI_some (S:=S) h
 obtain ⟨a1,c1,rfl,h1⟩:= popI_some (S:=S) h0
 obtain ⟨a2,c2,rfl,h2⟩:= popI_some (S:=S) h1
 obtain ⟨a3,c3,h3,k3⟩:= popS_some (S:=S) h2
 obtain ⟨a4,c4,rfl,h4⟩:= popI_some (S:=S) h3
 obtain ⟨a5,c5,rfl,h5⟩:= popI_some (S:=S) h4
 obtain ⟨a6,c6,rfl,h6⟩:= popI_some (S:=S) h5
 obtain ⟨a7,c7,rfl,h7⟩:= popI_some (S:=S) h6
 obtain ⟨a8,c8,rfl,h8⟩:= popI_some (S:=S) h7
 obtain ⟨a9,c9,rfl,h9⟩:= popI_some (S:=S) h8
 obtain ⟨a10,c10,rfl,h10⟩:= popI_some (S:=S) h9
 obtain ⟨a11,c11,rfl,h11⟩:= popI_some (S:=S) h10
 obtain ⟨a12,c12,rfl,h12⟩:= popI_some (S:=S) h11
 obtain ⟨a13,c13,rfl,h13⟩:= popI_some (S:=S) h12
 obtain ⟨a14,c14,rfl,h14⟩:= popI_some (S:=S) h13
 obtain ⟨a15,c15,rfl,h15⟩:= popI_some (S:=S) h14
 obtain ⟨a16,c16,rfl,h16⟩:= popI_some (S:=S) h15
 obtain ⟨a17,c17,rfl,h17⟩:= popI_some (S:=S) h16
 obtain ⟨rfl,rfl⟩:= popE_some (S:=S) h17
 exact (.cons (.cons (.cons (k3 _ (.cons (.cons (.cons (.cons (.cons (.cons (.cons (.cons (.cons (.cons (.cons (.cons (.cons (.cons (.refl _)))))))))))))))))))
theorem Law28Move.dec_ok : ∀cs x,Law28Move.dec cs=some x→Imp (S:=S) cs (Law28Move.cells x):= by
 intro cs x h
 unfold Law28Move.dec at h
 obtain ⟨a0,c0,rfl,h0⟩:= popI_some (S:=S) h
 obtain ⟨a1,c1,rfl,h1⟩:= popB_some (S:=S) h0
 obtain ⟨a2,c2,rfl,h2⟩:= popI_some (S:=S) h1
 obtain ⟨a3,c3,rfl,h3⟩:= popI_some (S:=S) h2
 obtain ⟨a4,c4,rfl,h4⟩:= popI_some (S:=S) h3
 obtain ⟨a5,c5,rfl,h5⟩:= popI_some (S:=S) h4
 obtain ⟨a6,c6,rfl,h6⟩:= popI_some (S:=S) h5
 obtain ⟨a7,c7,rfl,h7⟩:= popI_some (S:=S) h6
 obtain ⟨a8,c8,rfl,h8⟩:= popI_some (S:=S) h7
 obtain ⟨a9,c9,rfl,h9⟩:= popI_some (S:=S) h8
 obtain ⟨a10,c10,rfl,h10⟩:= popI_some (S:=S) h9
 obtain ⟨a11,c11,rfl,h11⟩:= popI_some (S:=S) h10
 obtain ⟨a12,c12,rfl,h12⟩:= popI_some (S:=S) h11
 obtain ⟨a13,c13,rfl,h13⟩:= popI_some (S:=S) h12
 obtain ⟨a14,c14,rfl,h14⟩:= popI_some (S:=S) h13
 obtain ⟨a15,c15,rfl,h15⟩:= popI_some (S:=S) h14
 obtain ⟨a16,c16,rfl,h16⟩:= popI_some (S:=S) h15
 obtain ⟨a17,c17,rfl,h17⟩:= popI_some (S:=S) h16
 obtain ⟨a18,c18,rfl,h18⟩:= popI_some (S:=S) h17
 obtain ⟨rfl,rfl⟩:= popE_some (S:=S) h18
 exact (.cons (.cons (.cons (.cons (.cons (.cons (.cons (.cons (.cons (.cons (.cons (.cons (.cons (.cons (.cons (.cons (.cons (.cons (.cons (.refl _))))))))))))))))))))
theorem Law28Talk.dec_ok : ∀cs x,Law28Talk.dec cs=some x→Imp (S:=S) cs (Law28Talk.cells x):= by
 intro cs x h
 unfold Law28Talk.dec at h
 obtain ⟨a0,c0,rfl,h0⟩:= popI_some (S:=S) h
 obtain ⟨a1,c1,rfl,h1⟩:= popI_some (S:=S) h0
 obtain ⟨a2,c2,rfl,h2⟩:= popI_some (S:=S) h1
 obtain ⟨a3,c3,rfl,h3⟩:= popI_some (S:=S) h2
 obtain ⟨a4,c4,rfl,h4⟩:= popB_some (S:=S) h3
 obtain ⟨a5,c5,rfl,h5⟩:= popI_some (S:=S) h4
 obtain ⟨a6,c6,h6,k6⟩:= popS_some (S:=S) h5
 obtain ⟨rfl,rfl⟩:= popE_some (S:=S) h6
 exact (.cons (.cons (.cons (.cons (.cons (.cons (k6 _ (.refl _))))))))
theorem Law28applied.dec_ok : ∀cs x,Law28applied.dec cs=some x→Imp (S:=S) cs (Law28applied.cells x):= by
 intro cs x h
 unfold Law28applied.dec at h
 obtain ⟨a0,c0,rfl,h0⟩:= popI_some (S:=S) h
 obtain ⟨a1,c1,rfl,h1⟩:= popI_some (S:=S) h0
 obtain ⟨a2,c2,rfl,h2⟩:= popI_some (S:=S) h1
 obtain ⟨a3,c3,rfl,h3⟩:= popI_some (S:=S) h2
 obtain ⟨a4,c4,rfl,h4⟩:= popI_some (S:=S) h3
 obtain ⟨a5,c5,rfl,h5⟩:= popI_some (S:=S) h4
 obtain ⟨a6,c6,rfl,h6⟩:= popI_some (S:=S) h5
 obtain ⟨a7,c7,rfl,h7⟩:= popI_some (S:=S) h6
 obtain ⟨a8,c8,rfl,h8⟩:= popI_some (S:=S) h7
 obtain ⟨rfl,rfl⟩:= popE_some (S:=S) h8
 exact (.cons (.cons (.cons (.cons (.cons (.cons (.cons (.cons (.cons (.refl _))))))))))
theorem Law28exchange.dec_ok : ∀cs x,Law28exchange.dec cs=some x→Imp (S:=S) cs (Law28exchange.cells x):= by
 intro cs x h
 unfold Law28exchange.dec at h
 obtain ⟨a0,c0,rfl,h0⟩:= popI_some (S:=S) h
 obtain ⟨a1,c1,rfl,h1⟩:= popI_some (S:=S) h0
 obtain ⟨a2,c2,rfl,h2⟩:= popI_some (S:=S) h1
 obtain ⟨a3,c3,h3,k3⟩:= popS_some (S:=S) h2
 obtain ⟨a4,c4,rfl,h4⟩:= popI_some (S:=S) h3
 obtain ⟨a5,c5,rfl,h5⟩:= popI_some (S:=S) h4
 obtain ⟨a6,c6,h6,k6⟩:= popS_some (S:=S) h5
 obtain ⟨a7,c7,rfl,h7⟩:= popB_some (S:=S) h6
 obtain ⟨a8,c8,rfl,h8⟩:= popI_some (S:=S) h7
 obtain ⟨a9,c9,rfl,h9⟩:= popI_some (S:=S) h8
 obtain ⟨a10,c10,rfl,h10⟩:= popB_some (S:=S) h9
 obtain ⟨a11,c11,rfl,h11⟩:= popB_some (S:=S) h10
 obtain ⟨a12,c12,rfl,h12⟩:= popI_some (S:=S) h11
 obtain ⟨a13,c13,rfl,h13⟩:= popI_some (S:=S) h12
 obtain ⟨a14,c14,rfl,h14⟩:= popI_some (S:=S) h13
 obtain ⟨a15,c15,rfl,h15⟩:= popI_some (S:=S) h14
 obtain ⟨a16,c16,rfl,h16⟩:= popI_some (S:=S) h15
 obtain ⟨a17,c17,rfl,h17⟩:= popI_some (S:=S) h16
 obtain ⟨a18,c18,rfl,h18⟩:= popI_some (S:=S) h17
 obtain ⟨a19,c19,rfl,h19⟩:= popI_some (S:=S) h18
 obtain ⟨a20,c20,rfl,h20⟩:= popI_some (S:=S) h19
 obtain ⟨a21,c21,rfl,h21⟩:= popI_some (S:=S) h20
 obtain ⟨a22,c22,rfl,h22⟩:= popI_some (S:=S) h21
 obtain ⟨a23,c23,h23,k23⟩:= popS_some (S:=S) h22
 obtain ⟨a24,c24,rfl,h24⟩:= popI_some (S:=S) h23
 obtain ⟨a25,c25,rfl,h25⟩:= popI_some (S:=S) h24
 obtain ⟨a26,c26,h26,k26⟩:= popS_some (S:=S) h25
 obtain ⟨a27,c27,rfl,h27⟩:= popB_some (S:=S) h26
 obtain ⟨a28,c28,rfl,h28⟩:= popI_some (S:=S) h27
 obtain ⟨a29,c29,rfl,h29⟩:= popI_some (S:=S) h28
 obtain ⟨a30,c30,rfl,h30⟩:= popB_some (S:=S) h29
 obtain ⟨a31,c31,rfl,h31⟩:= popB_some (S:=S) h30
 obtain ⟨a32,c32,rfl,h32⟩:= popI_some (S:=S) h31
 obtain ⟨a33,c33,rfl,h33⟩:= popI_some (S:=S) h32
 obtain ⟨a34,c34,rfl,h34⟩:= popI_some (S:=S) h33
 obtain ⟨a35,c35,rfl,h35⟩:= popI_some (S:=S) h34
 obtain ⟨a36,c36,rfl,h36⟩:= popI_some (S:=S) h35
 obtain ⟨a37,c37,rfl,h37⟩:= popI_some (S:=S) h36
 obtain ⟨a38,c38,rfl,h38⟩:= popI_some (S:=S) h37
 obtain ⟨a39,c39,rfl,h39⟩:= popI_some (S:=S) h38
 obtain ⟨a40,c40,h40,k40⟩:= popS_some (S:=S) h39
 obtain ⟨a41,c41,h41,k41⟩:= popS_some (S:=S) h40
 obtain ⟨a42,c42,h42,k42⟩:= popS_some (S:=S) h41
 obtain ⟨a43,c43,h43,k43⟩:= popS_some (S:=S) h42
 obtain ⟨a44,c44,rfl,h44⟩:= popI_some (S:=S) h43
 obtain ⟨a45,c45,rfl,h45⟩:= popI_some (S:=S) h44
 obtain ⟨a46,c46,rfl,h46⟩:= popI_some (S:=S) h45
 obtain ⟨a47,c47,rfl,h47⟩:= popI_some (S:=S) h46
 obtain ⟨rfl,rfl⟩:= popE_some (S:=S) h47
 exact (.cons (.cons (.cons (k3 _ (.cons (.cons (k6 _ (.cons (.cons (.cons (.cons (.cons (.cons (.cons (.cons (.cons (.cons (.cons (.cons (.cons (.cons (.cons (.cons (k23 _ (.cons (.cons (k26 _ (.cons (.cons (.cons (.cons (.cons (.cons (.cons (.cons (.cons (.cons (.cons (.cons (.cons (k40 _ (k41 _ (k42 _ (k43 _ (.cons (.cons (.cons (.cons (.refl _)))))))))))))))))))))))))))))))))))))))))))))))))
theorem Ref26Uses.dec_ok : ∀cs x,Ref26Uses.dec cs=some x→Imp (S:=S) cs (Ref26Uses.cells x):= by
 intro cs x h
 unfold Ref26Uses.dec at h
 obtain ⟨a0,c0,rfl,h0⟩:= popB_some (S:=S) h
 obtain ⟨a1,c1,rfl,h1⟩:= popB_some (S:=S) h0
 obtain ⟨a2,c2,rfl,h2⟩:= popB_some (S:=S) h1
 obtain ⟨a3,c3,rfl,h3⟩:= popB_some (S:=S) h2
 obtain ⟨a4,c4,rfl,h4⟩:= popB_some (S:=S) h3
 obtain ⟨a5,c5,rfl,h5⟩:= popB_some (S:=S) h4
 obtain ⟨a6,c6,rfl,h6⟩:= popB_some (S:=S) h5
 obtain ⟨a7,c7,rfl,h7⟩:= popB_some (S:=S) h6
 obtain ⟨a8,c8,rfl,h8⟩:= popB_some (S:=S) h7
 obtain ⟨a9,c9,rfl,h9⟩:= popB_some (S:=S) h8
 obtain ⟨a10,c10,rfl,h10⟩:= popB_some (S:=S) h9
 obtain ⟨rfl,rfl⟩:= popE_some (S:=S) h10
 exact (.cons (.cons (.cons (.cons (.cons (.cons (.cons (.cons (.cons (.cons (.cons (.refl _))))))))))))
theorem Field.dec_ok : ∀cs x,Field.dec cs=some x→Imp (S:=S) cs (Field.cells x):= by
 intro cs x h
 unfold Field.dec at h
 obtain ⟨a0,c0,rfl,h0⟩:= popI_some (S:=S) h
 obtain ⟨a1,c1,rfl,h1⟩:= popI_some (S:=S) h0
 obtain ⟨rfl,rfl⟩:= popE_some (S:=S) h1
 exact (.cons (.cons (.refl _)))
theorem ProcedureSide.dec_ok : ∀cs x,ProcedureSide.dec cs=some x→Imp (S:=S) cs (ProcedureSide.cells x):= by
 intro cs x h
 unfold ProcedureSide.dec at h
 obtain ⟨a0,c0,rfl,h0⟩:= popI_some (S:=S) h
 obtain ⟨a1,c1,rfl,h1⟩:= popI_some (S:=S) h0
 obtain ⟨a2,c2,rfl,h2⟩:= popI_some (S:=S) h1
 obtain ⟨a3,c3,h3,k3⟩:= popS_some (S:=S) h2
 obtain ⟨a4,c4,rfl,h4⟩:= popI_some (S:=S) h3
 obtain ⟨a5,c5,rfl,h5⟩:= popI_some (S:=S) h4
 obtain ⟨a6,c6,h6,k6⟩:= popS_some (S:=S) h5
 obtain ⟨a7,c7,rfl,h7⟩:= popB_some (S:=S) h6
 obtain ⟨a8,c8,rfl,h8⟩:= popI_some (S:=S) h7
 obtain ⟨a9,c9,rfl,h9⟩:= popI_some (S:=S) h8
 obtain ⟨a10,c10,rfl,h10⟩:= popB_some (S:=S) h9
 obtain ⟨a11,c11,rfl,h11⟩:= popB_some (S:=S) h10
 obtain ⟨a12,c12,rfl,h12⟩:= popI_some (S:=S) h11
 obtain ⟨a13,c13,rfl,h13⟩:= popI_some (S:=S) h12
 obtain ⟨a14,c14,rfl,h14⟩:= popI_some (S:=S) h13
 obtain ⟨a15,c15,rfl,h15⟩:= popI_some (S:=S) h14
 obtain ⟨a16,c16,rfl,h16⟩:= popI_some (S:=S) h15
 obtain ⟨a17,c17,rfl,h17⟩:= popI_some (S:=S) h16
 obtain ⟨a18,c18,rfl,h18⟩:= popI_some (S:=S) h17
 obtain ⟨a19,c19,rfl,h19⟩:= popI_some (S:=S) h18
 obtain ⟨a20,c20,rfl,h20⟩:= popI_some (S:=S) h19
 obtain ⟨a21,c21,rfl,h21⟩:= popI_some (S:=S) h20
 obtain ⟨a22,c22,h22,k22⟩:= popS_some (S:=S) h21
 obtain ⟨a23,c23,h23,k23⟩:= popS_some (S:=S) h22
 obtain ⟨rfl,rfl⟩:= popE_some (S:=S) h23
 exact (.cons (.cons (.cons (k3 _ (.cons (.cons (k6 _ (.cons (.cons (.cons (.cons (.cons (.cons (.cons (.cons (.cons (.cons (.cons (.cons (.cons (.cons (.cons (k22 _ (k23 _ (.refl _)))))))))))))))))))))))))
theorem ConnectSpan.dec_ok : ∀cs x,ConnectSpan.dec cs=some x→Imp (S:=S) cs (ConnectSpan.cells x):= by
 intro cs x h
 unfold ConnectSpan.dec at h
 obtain ⟨a0,c0,rfl,h0⟩:= popI_some (S:=S) h
 obtain ⟨a1,c1,rfl,h1⟩:= popI_some (S:=S) h0
 obtain ⟨a2,c2,rfl,h2⟩:= popI_some (S:=S) h1
 obtain ⟨rfl,rfl⟩:= popE_some (S:=S) h2
 exact (.cons (.cons (.cons (.refl _))))
theorem Arr72.dec_ok : ∀cs x,Arr72.dec cs=some x→Imp (S:=S) cs (Arr72.cells x):= by
 intro cs x h
 unfold Arr72.dec at h
 obtain ⟨a0,c0,rfl,h0⟩:= popI_some (S:=S) h
 obtain ⟨a1,c1,rfl,h1⟩:= popI_some (S:=S) h0
 obtain ⟨a2,c2,rfl,h2⟩:= popI_some (S:=S) h1
 obtain ⟨a3,c3,h3,k3⟩:= popS_some (S:=S) h2
 obtain ⟨a4,c4,rfl,h4⟩:= popI_some (S:=S) h3
 obtain ⟨a5,c5,rfl,h5⟩:= popI_some (S:=S) h4
 obtain ⟨a6,c6,h6,k6⟩:= popS_some (S:=S) h5
 obtain ⟨a7,c7,rfl,h7⟩:= popB_some (S:=S) h6
 obtain ⟨a8,c8,rfl,h8⟩:= popI_some (S:=S) h7
 obtain ⟨a9,c9,rfl,h9⟩:= popI_some (S:=S) h8
 obtain ⟨a10,c10,rfl,h10⟩:= popB_some (S:=S) h9
 obtain ⟨a11,c11,rfl,h11⟩:= popB_some (S:=S) h10
 obtain ⟨a12,c12,rfl,h12⟩:= popI_some (S:=S) h11
 obtain ⟨a13,c13,rfl,h13⟩:= popI_some (S:=S) h12
 obtain ⟨a14,c14,rfl,h14⟩:= popI_some (S:=S) h13
 obtain ⟨a15,c15,rfl,h15⟩:= popI_some (S:=S) h14
 obtain ⟨a16,c16,rfl,h16⟩:= popI_some (S:=S) h15
 obtain ⟨a17,c17,rfl,h17⟩:= popI_some (S:=S) h16
 obtain ⟨a18,c18,rfl,h18⟩:= popI_some (S:=S) h17
 obtain ⟨a19,c19,rfl,h19⟩:= popI_some (S:=S) h18
 obtain ⟨a20,c20,rfl,h20⟩:= popI_some (S:=S) h19
 obtain ⟨a21,c21,rfl,h21⟩:= popI_some (S:=S) h20
 obtain ⟨a22,c22,rfl,h22⟩:= popI_some (S:=S) h21
 obtain ⟨a23,c23,h23,k23⟩:= popS_some (S:=S) h22
 obtain ⟨a24,c24,rfl,h24⟩:= popI_some (S:=S) h23
 obtain ⟨a25,c25,rfl,h25⟩:= popI_some (S:=S) h24
 obtain ⟨a26,c26,h26,k26⟩:= popS_some (S:=S) h25
 obtain ⟨a27,c27,rfl,h27⟩:= popB_some (S:=S) h26
 obtain ⟨a28,c28,rfl,h28⟩:= popI_some (S:=S) h27
 obtain ⟨a29,c29,rfl,h29⟩:= popI_some (S:=S) h28
 obtain ⟨a30,c30,rfl,h30⟩:= popB_some (S:=S) h29
 obtain ⟨a31,c31,rfl,h31⟩:= popB_some (S:=S) h30
 obtain ⟨a32,c32,rfl,h32⟩:= popI_some (S:=S) h31
 obtain ⟨a33,c33,rfl,h33⟩:= popI_some (S:=S) h32
 obtain ⟨a34,c34,rfl,h34⟩:= popI_some (S:=S) h33
 obtain ⟨a35,c35,rfl,h35⟩:= popI_some (S:=S) h34
 obtain ⟨a36,c36,rfl,h36⟩:= popI_some (S:=S) h35
 obtain ⟨a37,c37,rfl,h37⟩:= popI_some (S:=S) h36
 obtain ⟨a38,c38,rfl,h38⟩:= popI_some (S:=S) h37
 obtain ⟨a39,c39,rfl,h39⟩:= popI_some (S:=S) h38
 obtain ⟨rfl,rfl⟩:= popE_some (S:=S) h39
 exact (.cons (.cons (.cons (k3 _ (.cons (.cons (k6 _ (.cons (.cons (.cons (.cons (.cons (.cons (.cons (.cons (.cons (.cons (.cons (.cons (.cons (.cons (.cons (.cons (k23 _ (.cons (.cons (k26 _ (.cons (.cons (.cons (.cons (.cons (.cons (.cons (.cons (.cons (.cons (.cons (.cons (.cons (.refl _)))))))))))))))))))))))))))))))))))))))))
theorem ek_len : ∀e (x:EkT e),(ekCells e x).length=ekSz e:=by intro e x;cases e <;> rfl
theorem ek_pos : ∀e,0 < ekSz e:=by intro e;cases e <;> decide
theorem ek_flat : ∀e (x:EkT e) c,c∈ekCells e x→lt0 0 c=true∧one c=true:=by
 intro e x c hc
 have:(ekCells e x).all (fun c=>lt0 0 c && one c)= true:=by cases e <;> rfl
 have:=List.all_eq_true.1 this c hc
 simpa using this
theorem ek_unif : ∀e (x:EkT e),(ekCells e x).map isScal=(ekCells e (ekZ e)).map isScal:=by intro e x;cases e <;> rfl
theorem ek_dec : ∀e cs (x:EkT e),ekDec e cs=some x→Imp (S:=S) cs (ekCells e x):= by
 intro e cs x h
 cases e with
 | e3 =>
  obtain ⟨a0,c0,rfl,h0⟩:= popI_some (S:=S) h
  obtain ⟨rfl,rfl⟩:= popE_some (S:=S) h0
  exact .refl _
 | e5 =>
  obtain ⟨a0,c0,rfl,h0⟩:= popI_some (S:=S) h
  obtain ⟨rfl,rfl⟩:= popE_some (S:=S) h0
  exact .refl _
 | e24 =>
  obtain ⟨a0,c0,rfl,h0⟩:= popI_some (S:=S) h
  obtain ⟨rfl,rfl⟩:= popE_some (S:=S) h0
  exact .refl _
 | e28=>exact Control.dec_ok cs x h
 | e33 =>
  have h:popS (El:=El) 5 cs (fun a0 c0=>popE c0 a0)= some x:=h
  obtain ⟨a0,c0,h0,k0⟩:= popS_some (S:=S) (t:=5) h
  obtain ⟨rfl,rfl⟩:= popE_some (S:=S) h0
  exact k0 _ (.refl _)
 | e59=>exact Change.dec_ok cs x h
 | e61=>exact Indication.dec_ok cs x h
 | e76=>exact Law28exchange.dec_ok cs x h
 | e78=>exact Law28applied.dec_ok cs x h
 | e97=>exact Field.dec_ok cs x h
 | e117=>exact Law28Move.dec_ok cs x h
 | e144=>exact ConnectSpan.dec_ok cs x h
 | other=>cases h
theorem bytesI_len (s:ByteArray): (bytesI s).length=s.size:=by simp [bytesI]
theorem ek_bytes : ∀e f,ekBytes e=some f→ekSz e=1∧∀s:ByteArray,(f s).length=s.size∧∀i,i < s.size→ekCells e ((f s).getD i (ekZ e))= [.v (.int .u8 ((bytesI s).getD i 0))]:= by
 intro e f h
 cases e <;> simp only [ekBytes,reduceCtorEq,Option.some.injEq] at h
 all_goals
  subst h
  exact ⟨rfl,fun s=>⟨bytesI_len s,fun i hi=>rfl⟩⟩
theorem ek_ints : ∀e f,ekInts e=some f→ekSz e=1∧∀xs:List (EkT e),(f xs).length=xs.length∧∀i,i < xs.length→ekCells e (xs.getD i (ekZ e))= [.v (.int .u8 ((f xs).getD i 0))]:= by
 intro e f h
 cases e <;> simp only [ekInts,reduceCtorEq,Option.some.injEq] at h
 all_goals
  subst h
  exact ⟨rfl,fun xs=>⟨rfl,fun i hi=>rfl⟩⟩
theorem sigOk:SigOk S:=⟨fun t x=>ek_len _ x,fun t=>ek_pos _,fun t x c hc=>ek_flat _ x c hc,globs_lt,fun t cs x h=>ek_dec _ cs x h,fun t f h=>ek_ints _ f h,fun t f h=>ek_bytes _ f h,fun t x=>ek_unif _ x⟩
theorem mixed:Try.prog.follows .mixedOrders=true:=by kernel_rfl
def tab0:List (FuncId×Ct El):= []
theorem tab0_ok:TabOk Try.prog S tab0:=trivial
end Go.Aw.W
