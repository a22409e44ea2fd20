/- The data of the seat, typed: structs, the elements of slices, how they lie in cells (printed by gen_sig.py). -/
import Derived.Test.YtlnbhdcaebmffaaGreatRows
import Derived.Test.YtlnbhdcaebmffaaGreatXAwN
import Derived.Test.YtlnbhdcaebmffaaGreatXAwU
set_option linter.unusedVariables false
namespace Go.Aw.W
open Go Go.Aw Go.Proofs
structure Update where
 WinSize:Int
 WinOffset:Int
 Interval:Int
 Latency:Int
 Timeout:Int
@[reducible] def Update.zero:Update:=⟨0,0,0,0,0⟩
structure Control where
 Kind:Int
 Update:Update
 Map:Int
 Instant:Int
 Reason:Int
 Rejected:Int
 Salt:Int
 Mark:Int
 Features:Int
 Version:Int
 Length:Int
@[reducible] def Control.zero:Control:=⟨0,Update.zero,0,0,0,0,0,0,0,0,0⟩
structure Law28Step where
 Call:Int
 Control:Control
 Events:Int
 Pause:Int
 Found:Bool
 Salt:Int
@[reducible] def Law28Step.zero:Law28Step:=⟨0,Control.zero,0,0,false,0⟩
structure Law28Script where
 Role:Int
 Limit:Int
 Features:Int
 Event:Int
 Steps:List Law28Step
@[reducible] def Law28Script.zero:Law28Script:=⟨0,0,0,0,[]⟩
structure Change where
 Kind:Int
 Instant:Int
 Update:Update
 Map:Int
@[reducible] def Change.zero:Change:=⟨0,0,Update.zero,0⟩
structure Procs where
 Role:Int
 Own:Int
 Since:Int
 Waiting:List Control
 Other:Int
 OtherTime:Int
 Pending:List Change
 Told:Bool
 Features:Int
 Common:Int
 Known:Bool
 VersionTx:Bool
 Version:Int
 Length:Int
 Limit:Int
 Salt:Int
 Peer:Int
 Mark:Int
 Crypt:Int
 Ended:Int
@[reducible] def Procs.zero:Procs:=⟨0,0,0,[],0,0,[],false,0,0,false,false,0,0,0,0,0,0,0,0⟩
structure Packet where
 LLID:Int
 Payload:List Int
@[reducible] def Packet.zero:Packet:=⟨0,[]⟩
structure Indication where
 Kind:Int
 Event:Int
 Packet:Packet
 Change:Change
 Number:Int
 Update:Update
@[reducible] def Indication.zero:Indication:=⟨0,0,Packet.zero,Change.zero,0,Update.zero⟩
structure ProcedureSide where
 Procs:Procs
 event:Int
 now:Int
 out:List Control
 told:List Indication
@[reducible] def ProcedureSide.zero:ProcedureSide:=⟨Procs.zero,0,0,[],[]⟩
structure Ref26Uses where
 Known:Bool
 Update:Bool
 Map:Bool
 Instant:Bool
 Reason:Bool
 Rejected:Bool
 Salt:Bool
 Mark:Bool
 Features:Bool
 Version:Bool
 Length:Bool
@[reducible] def Ref26Uses.zero:Ref26Uses:=⟨false,false,false,false,false,false,false,false,false,false,false⟩
structure ConnectSpan where
 n:Int
 low:Int
 high:Int
@[reducible] def ConnectSpan.zero:ConnectSpan:=⟨0,0,0⟩
inductive Ek where
 | e3
 | e5
 | e22
 | e37
 | e40
 | e55
 | e57
 | e131
 | other
@[reducible] def EkT:Ek→Type
 | .e3=>Int
 | .e5=>Int
 | .e22=>Int
 | .e37=>Control
 | .e40=>Law28Step
 | .e55=>Change
 | .e57=>Indication
 | .e131=>ConnectSpan
 | .other=>Unit
@[reducible] def ek:TypeId→Ek
 | 3 => .e3
 | 5 => .e5
 | 22 => .e22
 | 37 => .e37
 | 40 => .e40
 | 55 => .e55
 | 57 => .e57
 | 131 => .e131
 | _ => .other
@[reducible] def El (t:TypeId): Type:=EkT (ek t)
def Update.cells (x:Update): List (AV El):= [.v (.int .i64 x.WinSize), .v (.int .i64 x.WinOffset), .v (.int .i64 x.Interval), .v (.int .i64 x.Latency), .v (.int .i64 x.Timeout)]
def Update.av (x:Update): AV El:=.agg x.cells
def Update.dec (cs:List (AV El)): Option Update:=popI .i64 cs fun a0 c0=>popI .i64 c0 fun a1 c1=>popI .i64 c1 fun a2 c2=>popI .i64 c2 fun a3 c3=>popI .i64 c3 fun a4 c4=>popE c4 ⟨a0,a1,a2,a3,a4⟩
def Control.cells (x:Control): List (AV El):= [.v (.int .i64 x.Kind), .v (.int .i64 x.Update.WinSize), .v (.int .i64 x.Update.WinOffset), .v (.int .i64 x.Update.Interval), .v (.int .i64 x.Update.Latency), .v (.int .i64 x.Update.Timeout), .v (.int .u64 x.Map), .v (.int .u16 x.Instant), .v (.int .i64 x.Reason), .v (.int .i64 x.Rejected), .v (.int .u64 x.Salt), .v (.int .u64 x.Mark), .v (.int .u64 x.Features), .v (.int .i64 x.Version), .v (.int .i64 x.Length)]
def Control.av (x:Control): AV El:=.agg x.cells
def Control.dec (cs:List (AV El)): Option Control:=popI .i64 cs fun a0 c0=>popI .i64 c0 fun a1 c1=>popI .i64 c1 fun a2 c2=>popI .i64 c2 fun a3 c3=>popI .i64 c3 fun a4 c4=>popI .i64 c4 fun a5 c5=>popI .u64 c5 fun a6 c6=>popI .u16 c6 fun a7 c7=>popI .i64 c7 fun a8 c8=>popI .i64 c8 fun a9 c9=>popI .u64 c9 fun a10 c10=>popI .u64 c10 fun a11 c11=>popI .u64 c11 fun a12 c12=>popI .i64 c12 fun a13 c13=>popI .i64 c13 fun a14 c14=>popE c14 ⟨a0,⟨a1,a2,a3,a4,a5⟩,a6,a7,a8,a9,a10,a11,a12,a13,a14⟩
def Law28Step.cells (x:Law28Step): List (AV El):= [.v (.int .i64 x.Call), .v (.int .i64 x.Control.Kind), .v (.int .i64 x.Control.Update.WinSize), .v (.int .i64 x.Control.Update.WinOffset), .v (.int .i64 x.Control.Update.Interval), .v (.int .i64 x.Control.Update.Latency), .v (.int .i64 x.Control.Update.Timeout), .v (.int .u64 x.Control.Map), .v (.int .u16 x.Control.Instant), .v (.int .i64 x.Control.Reason), .v (.int .i64 x.Control.Rejected), .v (.int .u64 x.Control.Salt), .v (.int .u64 x.Control.Mark), .v (.int .u64 x.Control.Features), .v (.int .i64 x.Control.Version), .v (.int .i64 x.Control.Length), .v (.int .u8 x.Events), .v (.int .u32 x.Pause), .v (.bool x.Found), .v (.int .u64 x.Salt)]
def Law28Step.av (x:Law28Step): AV El:=.agg x.cells
def Law28Step.dec (cs:List (AV El)): Option Law28Step:=popI .i64 cs fun a0 c0=>popI .i64 c0 fun a1 c1=>popI .i64 c1 fun a2 c2=>popI .i64 c2 fun a3 c3=>popI .i64 c3 fun a4 c4=>popI .i64 c4 fun a5 c5=>popI .i64 c5 fun a6 c6=>popI .u64 c6 fun a7 c7=>popI .u16 c7 fun a8 c8=>popI .i64 c8 fun a9 c9=>popI .i64 c9 fun a10 c10=>popI .u64 c10 fun a11 c11=>popI .u64 c11 fun a12 c12=>popI .u64 c12 fun a13 c13=>popI .i64 c13 fun a14 c14=>popI .i64 c14 fun a15 c15=>popI .u8 c15 fun a16 c16=>popI .u32 c16 fun a17 c17=>popB c17 fun a18 c18=>popI .u64 c18 fun a19 c19=>popE c19 ⟨a0,⟨a1,⟨a2,a3,a4,a5,a6⟩,a7,a8,a9,a10,a11,a12,a13,a14,a15⟩,a16,a17,a18,a19⟩
def Law28Script.cells (x:Law28Script): List (AV El):= [.v (.int .i64 x.Role), .v (.int .i64 x.Limit), .v (.int .u64 x.Features), .v (.int .u16 x.Event), .sl 40 (x.Steps:List (El 40)) false]
def Law28Script.av (x:Law28Script): AV El:=.agg x.cells
def Law28Script.dec (cs:List (AV El)): Option Law28Script:=popI .i64 cs fun a0 c0=>popI .i64 c0 fun a1 c1=>popI .u64 c1 fun a2 c2=>popI .u16 c2 fun a3 c3=>popS 40 c3 fun a4 c4=>popE c4 ⟨a0,a1,a2,a3,a4⟩
def Change.cells (x:Change): List (AV El):= [.v (.int .i64 x.Kind), .v (.int .u16 x.Instant), .v (.int .i64 x.Update.WinSize), .v (.int .i64 x.Update.WinOffset), .v (.int .i64 x.Update.Interval), .v (.int .i64 x.Update.Latency), .v (.int .i64 x.Update.Timeout), .v (.int .u64 x.Map)]
def Change.av (x:Change): AV El:=.agg x.cells
def Change.dec (cs:List (AV El)): Option Change:=popI .i64 cs fun a0 c0=>popI .u16 c0 fun a1 c1=>popI .i64 c1 fun a2 c2=>popI .i64 c2 fun a3 c3=>popI .i64 c3 fun a4 c4=>popI .i64 c4 fun a5 c5=>popI .i64 c5 fun a6 c6=>popI .u64 c6 fun a7 c7=>popE c7 ⟨a0,a1,⟨a2,a3,a4,a5,a6⟩,a7⟩
def Procs.cells (x:Procs): List (AV El):= [.v (.int .i64 x.Role), .v (.int .i64 x.Own), .v (.int .i64 x.Since), .sl 37 (x.Waiting:List (El 37)) false, .v (.int .i64 x.Other), .v (.int .i64 x.OtherTime), .sl 55 (x.Pending:List (El 55)) false, .v (.bool x.Told), .v (.int .u64 x.Features), .v (.int .u64 x.Common), .v (.bool x.Known), .v (.bool x.VersionTx), .v (.int .i64 x.Version), .v (.int .i64 x.Length), .v (.int .i64 x.Limit), .v (.int .u64 x.Salt), .v (.int .u64 x.Peer), .v (.int .u64 x.Mark), .v (.int .i64 x.Crypt), .v (.int .i64 x.Ended)]
def Procs.av (x:Procs): AV El:=.agg x.cells
def Procs.dec (cs:List (AV El)): Option Procs:=popI .i64 cs fun a0 c0=>popI .i64 c0 fun a1 c1=>popI .i64 c1 fun a2 c2=>popS 37 c2 fun a3 c3=>popI .i64 c3 fun a4 c4=>popI .i64 c4 fun a5 c5=>popS 55 c5 fun a6 c6=>popB c6 fun a7 c7=>popI .u64 c7 fun a8 c8=>popI .u64 c8 fun a9 c9=>popB c9 fun a10 c10=>popB c10 fun a11 c11=>popI .i64 c11 fun a12 c12=>popI .i64 c12 fun a13 c13=>popI .i64 c13 fun a14 c14=>popI .u64 c14 fun a15 c15=>popI .u64 c15 fun a16 c16=>popI .u64 c16 fun a17 c17=>popI .i64 c17 fun a18 c18=>popI .i64 c18 fun a19 c19=>popE c19 ⟨a0,a1,a2,a3,a4,a5,a6,a7,a8,a9,a10,a11,a12,a13,a14,a15,a16,a17,a18,a19⟩
def Packet.cells (x:Packet): List (AV El):= [.v (.int .i64 x.LLID), .sl 5 (x.Payload:List (El 5)) false]
def Packet.av (x:Packet): AV El:=.agg x.cells
def Packet.dec (cs:List (AV El)): Option Packet:=popI .i64 cs fun a0 c0=>popS 5 c0 fun a1 c1=>popE c1 ⟨a0,a1⟩
def Indication.cells (x:Indication): List (AV El):= [.v (.int .i64 x.Kind), .v (.int .u16 x.Event), .v (.int .i64 x.Packet.LLID), .sl 5 (x.Packet.Payload:List (El 5)) false, .v (.int .i64 x.Change.Kind), .v (.int .u16 x.Change.Instant), .v (.int .i64 x.Change.Update.WinSize), .v (.int .i64 x.Change.Update.WinOffset), .v (.int .i64 x.Change.Update.Interval), .v (.int .i64 x.Change.Update.Latency), .v (.int .i64 x.Change.Update.Timeout), .v (.int .u64 x.Change.Map), .v (.int .u64 x.Number), .v (.int .i64 x.Update.WinSize), .v (.int .i64 x.Update.WinOffset), .v (.int .i64 x.Update.Interval), .v (.int .i64 x.Update.Latency), .v (.int .i64 x.Update.Timeout)]
def Indication.av (x:Indication): AV El:=.agg x.cells
def Indication.dec (cs:List (AV El)): Option Indication:=popI .i64 cs fun a0 c0=>popI .u16 c0 fun a1 c1=>popI .i64 c1 fun a2 c2=>popS 5 c2 fun a3 c3=>popI .i64 c3 fun a4 c4=>popI .u16 c4 fun a5 c5=>popI .i64 c5 fun a6 c6=>popI .i64 c6 fun a7 c7=>popI .i64 c7 fun a8 c8=>popI .i64 c8 fun a9 c9=>popI .i64 c9 fun a10 c10=>popI .u64 c10 fun a11 c11=>popI .u64 c11 fun a12 c12=>popI .i64 c12 fun a13 c13=>popI .i64 c13 fun a14 c14=>popI .i64 c14 fun a15 c15=>popI .i64 c15 fun a16 c16=>popI .i64 c16 fun a17 c17=>popE c17 ⟨a0,a1,⟨a2,a3⟩,⟨a4,a5,⟨a6,a7,a8,a9,a10⟩,a11⟩,a12,⟨a13,a14,a15,a16,a17⟩⟩
def ProcedureSide.cells (x:ProcedureSide): List (AV El):= [.v (.int .i64 x.Procs.Role), .v (.int .i64 x.Procs.Own), .v (.int .i64 x.Procs.Since), .sl 37 (x.Procs.Waiting:List (El 37)) false, .v (.int .i64 x.Procs.Other), .v (.int .i64 x.Procs.OtherTime), .sl 55 (x.Procs.Pending:List (El 55)) false, .v (.bool x.Procs.Told), .v (.int .u64 x.Procs.Features), .v (.int .u64 x.Procs.Common), .v (.bool x.Procs.Known), .v (.bool x.Procs.VersionTx), .v (.int .i64 x.Procs.Version), .v (.int .i64 x.Procs.Length), .v (.int .i64 x.Procs.Limit), .v (.int .u64 x.Procs.Salt), .v (.int .u64 x.Procs.Peer), .v (.int .u64 x.Procs.Mark), .v (.int .i64 x.Procs.Crypt), .v (.int .i64 x.Procs.Ended), .v (.int .u16 x.event), .v (.int .i64 x.now), .sl 37 (x.out:List (El 37)) false, .sl 57 (x.told:List (El 57)) false]
def ProcedureSide.av (x:ProcedureSide): AV El:=.agg x.cells
def ProcedureSide.dec (cs:List (AV El)): Option ProcedureSide:=popI .i64 cs fun a0 c0=>popI .i64 c0 fun a1 c1=>popI .i64 c1 fun a2 c2=>popS 37 c2 fun a3 c3=>popI .i64 c3 fun a4 c4=>popI .i64 c4 fun a5 c5=>popS 55 c5 fun a6 c6=>popB c6 fun a7 c7=>popI .u64 c7 fun a8 c8=>popI .u64 c8 fun a9 c9=>popB c9 fun a10 c10=>popB c10 fun a11 c11=>popI .i64 c11 fun a12 c12=>popI .i64 c12 fun a13 c13=>popI .i64 c13 fun a14 c14=>popI .u64 c14 fun a15 c15=>popI .u64 c15 fun a16 c16=>popI .u64 c16 fun a17 c17=>popI .i64 c17 fun a18 c18=>popI .i64 c18 fun a19 c19=>popI .u16 c19 fun a20 c20=>popI .i64 c20 fun a21 c21=>popS 37 c21 fun a22 c22=>popS 57 c22 fun a23 c23=>popE c23 ⟨⟨a0,a1,a2,a3,a4,a5,a6,a7,a8,a9,a10,a11,a12,a13,a14,a15,a16,a17,a18,a19⟩,a20,a21,a22,a23⟩
def Ref26Uses.cells (x:Ref26Uses): List (AV El):= [.v (.bool x.Known), .v (.bool x.Update), .v (.bool x.Map), .v (.bool x.Instant), .v (.bool x.Reason), .v (.bool x.Rejected), .v (.bool x.Salt), .v (.bool x.Mark), .v (.bool x.Features), .v (.bool x.Version), .v (.bool x.Length)]
def Ref26Uses.av (x:Ref26Uses): AV El:=.agg x.cells
def Ref26Uses.dec (cs:List (AV El)): Option Ref26Uses:=popB cs fun a0 c0=>popB c0 fun a1 c1=>popB c1 fun a2 c2=>popB c2 fun a3 c3=>popB c3 fun a4 c4=>popB c4 fun a5 c5=>popB c5 fun a6 c6=>popB c6 fun a7 c7=>popB c7 fun a8 c8=>popB c8 fun a9 c9=>popB c9 fun a10 c10=>popE c10 ⟨a0,a1,a2,a3,a4,a5,a6,a7,a8,a9,a10⟩
def ConnectSpan.cells (x:ConnectSpan): List (AV El):= [.v (.int .i64 x.n), .v (.int .i64 x.low), .v (.int .i64 x.high)]
def ConnectSpan.av (x:ConnectSpan): AV El:=.agg x.cells
def ConnectSpan.dec (cs:List (AV El)): Option ConnectSpan:=popI .i64 cs fun a0 c0=>popI .i64 c0 fun a1 c1=>popI .i64 c1 fun a2 c2=>popE c2 ⟨a0,a1,a2⟩
def ekSz:Ek→Nat
 | .e3=>1
 | .e5=>1
 | .e22=>1
 | .e37=>15
 | .e40=>20
 | .e55=>8
 | .e57=>18
 | .e131=>3
 | .other=>1
def ekZ : ∀e,EkT e
 | .e3=>(0:Int)
 | .e5=>(0:Int)
 | .e22=>(0:Int)
 | .e37=>(Control.zero:Control)
 | .e40=>(Law28Step.zero:Law28Step)
 | .e55=>(Change.zero:Change)
 | .e57=>(Indication.zero:Indication)
 | .e131=>(ConnectSpan.zero:ConnectSpan)
 | .other=>()
def ekCells : ∀e,EkT e→List (AV El)
 | .e3,x=>[.v (.int .i64 x)]
 | .e5,x=>[.v (.int .u8 x)]
 | .e22,x=>[.v (.int .u64 x)]
 | .e37,x=>Control.cells x
 | .e40,x=>Law28Step.cells x
 | .e55,x=>Change.cells x
 | .e57,x=>Indication.cells x
 | .e131,x=>ConnectSpan.cells x
 | .other,_=>[.v (.bool false)]
def ekDec : ∀e,List (AV El)→Option (EkT e)
 | .e3,cs=>popI .i64 cs fun a0 c0=>popE c0 a0
 | .e5,cs=>popI .u8 cs fun a0 c0=>popE c0 a0
 | .e22,cs=>popI .u64 cs fun a0 c0=>popE c0 a0
 | .e37,cs=>Control.dec cs
 | .e40,cs=>Law28Step.dec cs
 | .e55,cs=>Change.dec cs
 | .e57,cs=>Indication.dec cs
 | .e131,cs=>ConnectSpan.dec cs
 | .other,_=>none
def ekBytes : ∀e,Option (ByteArray→List (EkT e))
 | .e5=>some bytesI
 | _=>none
def ekInts : ∀e,Option (List (EkT e)→List Int)
 | .e5=>some id
 | _=>none
@[reducible] def globs:Nat→AV El:=fun _ => .any
theorem globs_lt : ∀g,lt2 0 (globs g)= true:=fun _=>rfl
def S:Sig:={El:=El,dflt:=fun t=>ekZ (ek t),sz:=fun t=>ekSz (ek t),cell:=fun t x=>ekCells (ek t) x,dec:=fun t cs=>ekDec (ek t) cs,glob:=globs,ofBytes:=fun t=>ekBytes (ek t),toInts:=fun t=>ekInts (ek t)}
theorem Update.dec_ok : ∀cs x,Update.dec cs=some x→Imp (S:=S) cs (Update.cells x):= by
 intro cs x h
 unfold Update.dec at h
 obtain ⟨a0,c0,rfl,h0⟩:= popI_some (S:=S) h
 obtain ⟨a1,c1,rfl,h1⟩:= popI_some (S:=S) h0
 obtain ⟨a2,c2,rfl,h2⟩:= popI_some (S:=S) h1
 obtain ⟨a3,c3,rfl,h3⟩:= popI_some (S:=S) h2
 obtain ⟨a4,c4,rfl,h4⟩:= popI_some (S:=S) h3
 obtain ⟨rfl,rfl⟩:= popE_some (S:=S) h4
 exact (.cons (.cons (.cons (.cons (.cons (.refl _))))))
theorem Control.dec_ok : ∀cs x,Control.dec cs=some x→Imp (S:=S) cs (Control.cells x):= by
 intro cs x h
 unfold Control.dec at h
 obtain ⟨a0,c0,rfl,h0⟩:= popI_some (S:=S) h
 obtain ⟨a1,c1,rfl,h1⟩:= popI_some (S:=S) h0
 obtain ⟨a2,c2,rfl,h2⟩:= popI_some (S:=S) h1
 obtain ⟨a3,c3,rfl,h3⟩:= popI_some (S:=S) h2
 obtain ⟨a4,c4,rfl,h4⟩:= popI_some (S:=S) h3
 obtain ⟨a5,c5,rfl,h5⟩:= popI_some (S:=S) h4
 obtain ⟨a6,c6,rfl,h6⟩:= popI_some (S:=S) h5
 obtain ⟨a7,c7,rfl,h7⟩:= popI_some (S:=S) h6
 obtain ⟨a8,c8,rfl,h8⟩:= popI_some (S:=S) h7
 obtain ⟨a9,c9,rfl,h9⟩:= popI_some (S:=S) h8
 obtain ⟨a10,c10,rfl,h10⟩:= popI_some (S:=S) h9
 obtain ⟨a11,c11,rfl,h11⟩:= popI_some (S:=S) h10
 obtain ⟨a12,c12,rfl,h12⟩:= popI_some (S:=S) h11
 obtain ⟨a13,c13,rfl,h13⟩:= popI_some (S:=S) h12
 obtain ⟨a14,c14,rfl,h14⟩:= popI_some (S:=S) h13
 obtain ⟨rfl,rfl⟩:= popE_some (S:=S) h14
 exact (.cons (.cons (.cons (.cons (.cons (.cons (.cons (.cons (.cons (.cons (.cons (.cons (.cons (.cons (.cons (.refl _))))))))))))))))
theorem Law28Step.dec_ok : ∀cs x,Law28Step.dec cs=some x→Imp (S:=S) cs (Law28Step.cells x):= by
 intro cs x h
 unfold Law28Step.dec at h
 obtain ⟨a0,c0,rfl,h0⟩:= popI_some (S:=S) h
 obtain ⟨a1,c1,rfl,h1⟩:= popI_some (S:=S) h0
 obtain ⟨a2,c2,rfl,h2⟩:= popI_some (S:=S) h1
 obtain ⟨a3,c3,rfl,h3⟩:= popI_some (S:=S) h2
 obtain ⟨a4,c4,rfl,h4⟩:= popI_some (S:=S) h3
 obtain ⟨a5,c5,rfl,h5⟩:= popI_some (S:=S) h4
 obtain ⟨a6,c6,rfl,h6⟩:= popI_some (S:=S) h5
 obtain ⟨a7,c7,rfl,h7⟩:= popI_some (S:=S) h6
 obtain ⟨a8,c8,rfl,h8⟩:= popI_some (S:=S) h7
 obtain ⟨a9,c9,rfl,h9⟩:= popI_some (S:=S) h8
 obtain ⟨a10,c10,rfl,h10⟩:= popI_some (S:=S) h9
 obtain ⟨a11,c11,rfl,h11⟩:= popI_some (S:=S) h10
 obtain ⟨a12,c12,rfl,h12⟩:= popI_some (S:=S) h11
 obtain ⟨a13,c13,rfl,h13⟩:= popI_some (S:=S) h12
 obtain ⟨a14,c14,rfl,h14⟩:= popI_some (S:=S) h13
 obtain ⟨a15,c15,rfl,h15⟩:= popI_some (S:=S) h14
 obtain ⟨a16,c16,rfl,h16⟩:= popI_some (S:=S) h15
 obtain ⟨a17,c17,rfl,h17⟩:= popI_some (S:=S) h16
 obtain ⟨a18,c18,rfl,h18⟩:= popB_some (S:=S) h17
 obtain ⟨a19,c19,rfl,h19⟩:= popI_some (S:=S) h18
 obtain ⟨rfl,rfl⟩:= popE_some (S:=S) h19
 exact (.cons (.cons (.cons (.cons (.cons (.cons (.cons (.cons (.cons (.cons (.cons (.cons (.cons (.cons (.cons (.cons (.cons (.cons (.cons (.cons (.refl _)))))))))))))))))))))
theorem Law28Script.dec_ok : ∀cs x,Law28Script.dec cs=some x→Imp (S:=S) cs (Law28Script.cells x):= by
 intro cs x h
 unfold Law28Script.dec at h
 obtain ⟨a0,c0,rfl,h0⟩:= popI_some (S:=S) h
 obtain ⟨a1,c1,rfl,h1⟩:= popI_some (S:=S) h0
 obtain ⟨a2,c2,rfl,h2⟩:= popI_some (S:=S) h1
 obtain ⟨a3,c3,rfl,h3⟩:= popI_some (S:=S) h2
 obtain ⟨a4,c4,h4,k4⟩:= popS_some (S:=S) h3
 obtain ⟨rfl,rfl⟩:= popE_some (S:=S) h4
 exact (.cons (.cons (.cons (.cons (k4 _ (.refl _))))))
theorem Change.dec_ok : ∀cs x,Change.dec cs=some x→Imp (S:=S) cs (Change.cells x):= by
 intro cs x h
 unfold Change.dec at h
 obtain ⟨a0,c0,rfl,h0⟩:= popI_some (S:=S) h
 obtain ⟨a1,c1,rfl,h1⟩:= popI_some (S:=S) h0
 obtain ⟨a2,c2,rfl,h2⟩:= popI_some (S:=S) h1
 obtain ⟨a3,c3,rfl,h3⟩:= popI_some (S:=S) h2
 obtain ⟨a4,c4,rfl,h4⟩:= popI_some (S:=S) h3
 obtain ⟨a5,c5,rfl,h5⟩:= popI_some (S:=S) h4
 obtain ⟨a6,c6,rfl,h6⟩:= popI_some (S:=S) h5
 obtain ⟨a7,c7,rfl,h7⟩:= popI_some (S:=S) h6
 obtain ⟨rfl,rfl⟩:= popE_some (S:=S) h7
 exact (.cons (.cons (.cons (.cons (.cons (.cons (.cons (.cons (.refl _)))))))))
theorem Procs.dec_ok : ∀cs x,Procs.dec cs=some x→Imp (S:=S) cs (Procs.cells x):= by
 intro cs x h
 unfold Procs.dec at h
 obtain ⟨a0,c0,rfl,h0⟩:= popI_some (S:=S) h
 obtain ⟨a1,c1,rfl,h1⟩:= popI_some (S:=S) h0
 obtain ⟨a2,c2,rfl,h2⟩:= popI_some (S:=S) h1
 obtain ⟨a3,c3,h3,k3⟩:= popS_some (S:=S) h2
 obtain ⟨a4,c4,rfl,h4⟩:= popI_some (S:=S) h3
 obtain ⟨a5,c5,rfl,h5⟩:= popI_some (S:=S) h4
 obtain ⟨a6,c6,h6,k6⟩:= popS_some (S:=S) h5
 obtain ⟨a7,c7,rfl,h7⟩:= popB_some (S:=S) h6
 obtain ⟨a8,c8,rfl,h8⟩:= popI_some (S:=S) h7
 obtain ⟨a9,c9,rfl,h9⟩:= popI_some (S:=S) h8
 obtain ⟨a10,c10,rfl,h10⟩:= popB_some (S:=S) h9
 obtain ⟨a11,c11,rfl,h11⟩:= popB_some (S:=S) h10
 obtain ⟨a12,c12,rfl,h12⟩:= popI_some (S:=S) h11
 obtain ⟨a13,c13,rfl,h13⟩:= popI_some (S:=S) h12
 obtain ⟨a14,c14,rfl,h14⟩:= popI_some (S:=S) h13
 obtain ⟨a15,c15,rfl,h15⟩:= popI_some (S:=S) h14
 obtain ⟨a16,c16,rfl,h16⟩:= popI_some (S:=S) h15
 obtain ⟨a17,c17,rfl,h17⟩:= popI_some (S:=S) h16
 obtain ⟨a18,c18,rfl,h18⟩:= popI_some (S:=S) h17
 obtain ⟨a19,c19,rfl,h19⟩:= popI_some (S:=S) h18
 obtain ⟨rfl,rfl⟩:= popE_some (S:=S) h19
 exact (.cons (.cons (.cons (k3 _ (.cons (.cons (k6 _ (.cons (.cons (.cons (.cons (.cons (.cons (.cons (.cons (.cons (.cons (.cons (.cons (.cons (.refl _)))))))))))))))))))))
theorem Packet.dec_ok : ∀cs x,Packet.dec cs=some x→Imp (S:=S) cs (Packet.cells x):= by
 intro cs x h
 unfold Packet.dec at h
 obtain ⟨a0,c0,rfl,h0⟩:= popI_some (S:=S) h
 obtain ⟨a1,c1,h1,k1⟩:= popS_some (S:=S) h0
 obtain ⟨rfl,rfl⟩:= popE_some (S:=S) h1
 exact (.cons (k1 _ (.refl _)))
theorem Indication.dec_ok : ∀cs x,Indication.dec cs=some x→Imp (S:=S) cs (Indication.cells x):= by
 intro cs x h
 unfold Indication.dec at h
 obtain ⟨a0,c0,rfl,h0⟩:= popI_some (S:=S) h
 obtain ⟨a1,c1,rfl,h1⟩:= popI_some (S:=S) h0
 obtain ⟨a2,c2,rfl,h2⟩:= popI_some (S:=S) h1
 obtain ⟨a3,c3,h3,k3⟩:= popS_some (S:=S) h2
 obtain ⟨a4,c4,rfl,h4⟩:= popI_some (S:=S) h3
 obtain ⟨a5,c5,rfl,h5⟩:= popI_some (S:=S) h4
 obtain ⟨a6,c6,rfl,h6⟩:= popI_some (S:=S) h5
 obtain ⟨a7,c7,rfl,h7⟩:= popI_some (S:=S) h6
 obtain ⟨a8,c8,rfl,h8⟩:= popI_some (S:=S) h7
 obtain ⟨a9,c9,rfl,h9⟩:= popI_some (S:=S) h8
 obtain ⟨a10,c10,rfl,h10⟩:= popI_some (S:=S) h9
 obtain ⟨a11,c11,rfl,h11⟩:= popI_some (S:=S) h10
 obtain ⟨a12,c12,rfl,h12⟩:= popI_some (S:=S) h11
 obtain ⟨a13,c13,rfl,h13⟩:= popI_some (S:=S) h12
 obtain ⟨a14,c14,rfl,h14⟩:= popI_some (S:=S) h13
 obtain ⟨a15,c15,rfl,h15⟩:= popI_some (S:=S) h14
 obtain ⟨a16,c16,rfl,h16⟩:= popI_some (S:=S) h15
 obtain ⟨a17,c17,rfl,h17⟩:= popI_some (S:=S) h16
 obtain ⟨rfl,rfl⟩:= popE_some (S:=S) h17
 exact (.cons (.cons (.cons (k3 _ (.cons (.cons (.cons (.cons (.cons (.cons (.cons (.cons (.cons (.cons (.cons (.cons (.cons (.cons (.refl _)))))))))))))))))))
theorem ProcedureSide.dec_ok : ∀cs x,ProcedureSide.dec cs=some x→Imp (S:=S) cs (ProcedureSide.cells x):= by
 intro cs x h
 unfold ProcedureSide.dec at h
 obtain ⟨a0,c0,rfl,h0⟩:= popI_some (S:=S) h
 obtain ⟨a1,c1,rfl,h1⟩:= popI_some (S:=S) h0
 obtain ⟨a2,c2,rfl,h2⟩:= popI_some (S:=S) h1
 obtain ⟨a3,c3,h3,k3⟩:= popS_some (S:=S) h2
 obtain ⟨a4,c4,rfl,h4⟩:= popI_some (S:=S) h3
 obtain ⟨a5,c5,rfl,h5⟩:= popI_some (S:=S) h4
 obtain ⟨a6,c6,h6,k6⟩:= popS_some (S:=S) h5
 obtain ⟨a7,c7,rfl,h7⟩:= popB_some (S:=S) h6
 obtain ⟨a8,c8,rfl,h8⟩:= popI_some (S:=S) h7
 obtain ⟨a9,c9,rfl,h9⟩:= popI_some (S:=S) h8
 obtain ⟨a10,c10,rfl,h10⟩:= popB_some (S:=S) h9
 obtain ⟨a11,c11,rfl,h11⟩:= popB_some (S:=S) h10
 obtain ⟨a12,c12,rfl,h12⟩:= popI_some (S:=S) h11
 obtain ⟨a13,c13,rfl,h13⟩:= popI_some (S:=S) h12
 obtain ⟨a14,c14,rfl,h14⟩:= popI_some (S:=S) h13
 obtain ⟨a15,c15,rfl,h15⟩:= popI_some (S:=S) h14
 obtain ⟨a16,c16,rfl,h16⟩:= popI_some (S:=S) h15
 obtain ⟨a17,c17,rfl,h17⟩:= popI_some (S:=S) h16
 obtain ⟨a18,c18,rfl,h18⟩:= popI_some (S:=S) h17
 obtain ⟨a19,c19,rfl,h19⟩:= popI_some (S:=S) h18
 obtain ⟨a20,c20,rfl,h20⟩:= popI_some (S:=S) h19
 obtain ⟨a21,c21,rfl,h21⟩:= popI_some (S:=S) h20
 obtain ⟨a22,c22,h22,k22⟩:= popS_some (S:=S) h21
 obtain ⟨a23,c23,h23,k23⟩:= popS_some (S:=S) h22
 obtain ⟨rfl,rfl⟩:= popE_some (S:=S) h23
 exact (.cons (.cons (.cons (k3 _ (.cons (.cons (k6 _ (.cons (.cons (.cons (.cons (.cons (.cons (.cons (.cons (.cons (.cons (.cons (.cons (.cons (.cons (.cons (k22 _ (k23 _ (.refl _)))))))))))))))))))))))))
theorem Ref26Uses.dec_ok : ∀cs x,Ref26Uses.dec cs=some x→Imp (S:=S) cs (Ref26Uses.cells x):= by
 intro cs x h
 unfold Ref26Uses.dec at h
 obtain ⟨a0,c0,rfl,h0⟩:= popB_some (S:=S) h
 obtain ⟨a1,c1,rfl,h1⟩:= popB_some (S:=S) h0
 obtain ⟨a2,c2,rfl,h2⟩:= popB_some (S:=S) h1
 obtain ⟨a3,c3,rfl,h3⟩:= popB_some (S:=S) h2
 obtain ⟨a4,c4,rfl,h4⟩:= popB_some (S:=S) h3
 obtain ⟨a5,c5,rfl,h5⟩:= popB_some (S:=S) h4
 obtain ⟨a6,c6,rfl,h6⟩:= popB_some (S:=S) h5
 obtain ⟨a7,c7,rfl,h7⟩:= popB_some (S:=S) h6
 obtain ⟨a8,c8,rfl,h8⟩:= popB_some (S:=S) h7
 obtain ⟨a9,c9,rfl,h9⟩:= popB_some (S:=S) h8
 obtain ⟨a10,c10,rfl,h10⟩:= popB_some (S:=S) h9
 obtain ⟨rfl,rfl⟩:= popE_some (S:=S) h10
 exact (.cons (.cons (.cons (.cons (.cons (.cons (.cons (.cons (.cons (.cons (.cons (.refl _))))))))))))
theorem ConnectSpan.dec_ok : ∀cs x,ConnectSpan.dec cs=some x→Imp (S:=S) cs (ConnectSpan.cells x):= by
 intro cs x h
 unfold ConnectSpan.dec at h
 obtain ⟨a0,c0,rfl,h0⟩:= popI_some (S:=S) h
 obtain ⟨a1,c1,rfl,h1⟩:= popI_some (S:=S) h0
 obtain ⟨a2,c2,rfl,h2⟩:= popI_some (S:=S) h1
 obtain ⟨rfl,rfl⟩:= popE_some (S:=S) h2
 exact (.cons (.cons (.cons (.refl _))))
theorem ek_len : ∀e (x:EkT e),(ekCells e x).length=ekSz e:=by intro e x;cases e <;> rfl
theorem ek_pos : ∀e,0 < ekSz e:=by intro e;cases e <;> decide
theorem ek_flat : ∀e (x:EkT e) c,c∈ekCells e x→lt0 0 c=true∧one c=true:=by
 intro e x c hc
 have:(ekCells e x).all (fun c=>lt0 0 c && one c)= true:=by cases e <;> rfl
 have:=List.all_eq_true.1 this c hc
 simpa using this
theorem ek_unif : ∀e (x:EkT e),(ekCells e x).map isScal=(ekCells e (ekZ e)).map isScal:=by intro e x;cases e <;> rfl
theorem ek_dec : ∀e cs (x:EkT e),ekDec e cs=some x→Imp (S:=S) cs (ekCells e x):= by
 intro e cs x h
 cases e with
 | e3 =>
  obtain ⟨a0,c0,rfl,h0⟩:= popI_some (S:=S) h
  obtain ⟨rfl,rfl⟩:= popE_some (S:=S) h0
  exact .refl _
 | e5 =>
  obtain ⟨a0,c0,rfl,h0⟩:= popI_some (S:=S) h
  obtain ⟨rfl,rfl⟩:= popE_some (S:=S) h0
  exact .refl _
 | e22 =>
  obtain ⟨a0,c0,rfl,h0⟩:= popI_some (S:=S) h
  obtain ⟨rfl,rfl⟩:= popE_some (S:=S) h0
  exact .refl _
 | e37=>exact Control.dec_ok cs x h
 | e40=>exact Law28Step.dec_ok cs x h
 | e55=>exact Change.dec_ok cs x h
 | e57=>exact Indication.dec_ok cs x h
 | e131=>exact ConnectSpan.dec_ok cs x h
 | other=>cases h
theorem bytesI_len (s:ByteArray): (bytesI s).length=s.size:=by simp [bytesI]
theorem ek_bytes : ∀e f,ekBytes e=some f→ekSz e=1∧∀s:ByteArray,(f s).length=s.size∧∀i,i < s.size→ekCells e ((f s).getD i (ekZ e))= [.v (.int .u8 ((bytesI s).getD i 0))]:= by
 intro e f h
 cases e <;> simp only [ekBytes,reduceCtorEq,Option.some.injEq] at h
 all_goals
  subst h
  exact ⟨rfl,fun s=>⟨bytesI_len s,fun i hi=>rfl⟩⟩
theorem ek_ints : ∀e f,ekInts e=some f→ekSz e=1∧∀xs:List (EkT e),(f xs).length=xs.length∧∀i,i < xs.length→ekCells e (xs.getD i (ekZ e))= [.v (.int .u8 ((f xs).getD i 0))]:= by
 intro e f h
 cases e <;> simp only [ekInts,reduceCtorEq,Option.some.injEq] at h
 all_goals
  subst h
  exact ⟨rfl,fun xs=>⟨rfl,fun i hi=>rfl⟩⟩
theorem sigOk:SigOk S:=⟨fun t x=>ek_len _ x,fun t=>ek_pos _,fun t x c hc=>ek_flat _ x c hc,globs_lt,fun t cs x h=>ek_dec _ cs x h,fun t f h=>ek_ints _ f h,fun t f h=>ek_bytes _ f h,fun t x=>ek_unif _ x⟩
theorem mixed:Tryz.prog.follows .mixedOrders=true:=by kernel_rfl
def tab0:List (FuncId×Ct El):= []
theorem tab0_ok:TabOk Tryz.prog S tab0:=trivial
end Go.Aw.W
