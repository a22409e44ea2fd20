/- The data of the seat, typed: structs, the elements of slices, how they lie in cells (printed by gen_sig.py). -/
import Derived.Test.YtppceadhdckpmaaGreatDoorRows
import Derived.Test.YtppceadhdckpmaaGreatDoorXAwL
set_option linter.unusedVariables false
namespace Go.Aw.W
open Go Go.Aw Go.Proofs
structure Address where
 Kind:Int
 Bits:Int
@[reducible] def Address.zero:Address:=⟨0,0⟩
structure Identity where
 Address:Address
 IRK:Int
@[reducible] def Identity.zero:Identity:=⟨Address.zero,0⟩
structure ScanParams where
 Interval:Int
 Window:Int
 Active:Bool
 Policy:Int
 Accept:List Address
 Identities:List Identity
 Own:Address
 Unique:Bool
@[reducible] def ScanParams.zero:ScanParams:=⟨0,0,false,0,[],[],Address.zero,false⟩
structure Law22At where
 Seed:Int
 Start:Int
 Local:Int
@[reducible] def Law22At.zero:Law22At:=⟨0,0,0⟩
structure Scanner where
 Params:ScanParams
 On:Bool
 Start:Int
 Upper:Int
 Count:Int
 Fails:Int
 Wins:Int
 Wait:Address
 Seen:List Address
 Seed:Int
@[reducible] def Scanner.zero:Scanner:=⟨ScanParams.zero,false,0,0,0,0,0,Address.zero,[],0⟩
structure Update where
 WinSize:Int
 WinOffset:Int
 Interval:Int
 Latency:Int
 Timeout:Int
@[reducible] def Update.zero:Update:=⟨0,0,0,0,0⟩
structure ConnParams where
 Access:Int
 Init:Int
 Update:Update
 Map:Int
 Hop:Int
 PPM:Int
 Algorithm:Int
@[reducible] def ConnParams.zero:ConnParams:=⟨0,0,Update.zero,0,0,0,0⟩
structure AdvPDU where
 Kind:Int
 Sender:Address
 Target:Address
 Data:List Int
 Conn:ConnParams
@[reducible] def AdvPDU.zero:AdvPDU:=⟨0,Address.zero,Address.zero,[],ConnParams.zero⟩
structure Law22Op where
 Do:Int
 Wait:Int
 PDU:AdvPDU
 Channel:Int
@[reducible] def Law22Op.zero:Law22Op:=⟨0,0,AdvPDU.zero,0⟩
structure Report where
 Time:Int
 Kind:Int
 Sender:Address
 Identity:Int
 Data:List Int
@[reducible] def Report.zero:Report:=⟨0,0,Address.zero,0,[]⟩
structure Send where
 Channel:Int
 Time:Int
 PDU:AdvPDU
@[reducible] def Send.zero:Send:=⟨0,0,AdvPDU.zero⟩
structure AdvpduForm where
 known:Bool
 target:Bool
 data:Bool
 conn:Bool
@[reducible] def AdvpduForm.zero:AdvpduForm:=⟨false,false,false,false⟩
structure ConnectSpan where
 n:Int
 low:Int
 high:Int
@[reducible] def ConnectSpan.zero:ConnectSpan:=⟨0,0,0⟩
structure Field where
 Size:Int
 Value:Int
@[reducible] def Field.zero:Field:=⟨0,0⟩
inductive Ek where
 | e3
 | e5
 | e24
 | e26
 | e40
 | e50
 | e64
 | e67
 | e88
 | e114
 | e123
 | other
@[reducible] def EkT:Ek→Type
 | .e3=>Int
 | .e5=>Int
 | .e24=>Int
 | .e26=>Address
 | .e40=>List Int
 | .e50=>Law22Op
 | .e64=>Report
 | .e67=>Send
 | .e88=>Identity
 | .e114=>ConnectSpan
 | .e123=>Field
 | .other=>Unit
@[reducible] def ek:TypeId→Ek
 | 3 => .e3
 | 5 => .e5
 | 24 => .e24
 | 26 => .e26
 | 40 => .e40
 | 50 => .e50
 | 64 => .e64
 | 67 => .e67
 | 88 => .e88
 | 114 => .e114
 | 123 => .e123
 | _ => .other
@[reducible] def El (t:TypeId): Type:=EkT (ek t)
def Address.cells (x:Address): List (AV El):= [.v (.int .i64 x.Kind), .v (.int .u64 x.Bits)]
def Address.av (x:Address): AV El:=.agg x.cells
def Address.dec (cs:List (AV El)): Option Address:=popI .i64 cs fun a0 c0=>popI .u64 c0 fun a1 c1=>popE c1 ⟨a0,a1⟩
def Identity.cells (x:Identity): List (AV El):= [.v (.int .i64 x.Address.Kind), .v (.int .u64 x.Address.Bits), .v (.int .u64 x.IRK)]
def Identity.av (x:Identity): AV El:=.agg x.cells
def Identity.dec (cs:List (AV El)): Option Identity:=popI .i64 cs fun a0 c0=>popI .u64 c0 fun a1 c1=>popI .u64 c1 fun a2 c2=>popE c2 ⟨⟨a0,a1⟩,a2⟩
def ScanParams.cells (x:ScanParams): List (AV El):= [.v (.int .i64 x.Interval), .v (.int .i64 x.Window), .v (.bool x.Active), .v (.int .i64 x.Policy), .sl 26 (x.Accept:List (El 26)) false, .sl 88 (x.Identities:List (El 88)) false, .v (.int .i64 x.Own.Kind), .v (.int .u64 x.Own.Bits), .v (.bool x.Unique)]
def ScanParams.av (x:ScanParams): AV El:=.agg x.cells
def ScanParams.dec (cs:List (AV El)): Option ScanParams:=popI .i64 cs fun a0 c0=>popI .i64 c0 fun a1 c1=>popB c1 fun a2 c2=>popI .i64 c2 fun a3 c3=>popS 26 c3 fun a4 c4=>popS 88 c4 fun a5 c5=>popI .i64 c5 fun a6 c6=>popI .u64 c6 fun a7 c7=>popB c7 fun a8 c8=>popE c8 ⟨a0,a1,a2,a3,a4,a5,⟨a6,a7⟩,a8⟩
def Law22At.cells (x:Law22At): List (AV El):= [.v (.int .u64 x.Seed), .v (.int .i64 x.Start), .v (.int .i64 x.Local)]
def Law22At.av (x:Law22At): AV El:=.agg x.cells
def Law22At.dec (cs:List (AV El)): Option Law22At:=popI .u64 cs fun a0 c0=>popI .i64 c0 fun a1 c1=>popI .i64 c1 fun a2 c2=>popE c2 ⟨a0,a1,a2⟩
def Scanner.cells (x:Scanner): List (AV El):= [.v (.int .i64 x.Params.Interval), .v (.int .i64 x.Params.Window), .v (.bool x.Params.Active), .v (.int .i64 x.Params.Policy), .sl 26 (x.Params.Accept:List (El 26)) false, .sl 88 (x.Params.Identities:List (El 88)) false, .v (.int .i64 x.Params.Own.Kind), .v (.int .u64 x.Params.Own.Bits), .v (.bool x.Params.Unique), .v (.bool x.On), .v (.int .i64 x.Start), .v (.int .i64 x.Upper), .v (.int .i64 x.Count), .v (.int .i64 x.Fails), .v (.int .i64 x.Wins), .v (.int .i64 x.Wait.Kind), .v (.int .u64 x.Wait.Bits), .sl 26 (x.Seen:List (El 26)) false, .v (.int .u64 x.Seed)]
def Scanner.av (x:Scanner): AV El:=.agg x.cells
def Scanner.dec (cs:List (AV El)): Option Scanner:=popI .i64 cs fun a0 c0=>popI .i64 c0 fun a1 c1=>popB c1 fun a2 c2=>popI .i64 c2 fun a3 c3=>popS 26 c3 fun a4 c4=>popS 88 c4 fun a5 c5=>popI .i64 c5 fun a6 c6=>popI .u64 c6 fun a7 c7=>popB c7 fun a8 c8=>popB c8 fun a9 c9=>popI .i64 c9 fun a10 c10=>popI .i64 c10 fun a11 c11=>popI .i64 c11 fun a12 c12=>popI .i64 c12 fun a13 c13=>popI .i64 c13 fun a14 c14=>popI .i64 c14 fun a15 c15=>popI .u64 c15 fun a16 c16=>popS 26 c16 fun a17 c17=>popI .u64 c17 fun a18 c18=>popE c18 ⟨⟨a0,a1,a2,a3,a4,a5,⟨a6,a7⟩,a8⟩,a9,a10,a11,a12,a13,a14,⟨a15,a16⟩,a17,a18⟩
def Update.cells (x:Update): List (AV El):= [.v (.int .i64 x.WinSize), .v (.int .i64 x.WinOffset), .v (.int .i64 x.Interval), .v (.int .i64 x.Latency), .v (.int .i64 x.Timeout)]
def Update.av (x:Update): AV El:=.agg x.cells
def Update.dec (cs:List (AV El)): Option Update:=popI .i64 cs fun a0 c0=>popI .i64 c0 fun a1 c1=>popI .i64 c1 fun a2 c2=>popI .i64 c2 fun a3 c3=>popI .i64 c3 fun a4 c4=>popE c4 ⟨a0,a1,a2,a3,a4⟩
def ConnParams.cells (x:ConnParams): List (AV El):= [.v (.int .u32 x.Access), .v (.int .u32 x.Init), .v (.int .i64 x.Update.WinSize), .v (.int .i64 x.Update.WinOffset), .v (.int .i64 x.Update.Interval), .v (.int .i64 x.Update.Latency), .v (.int .i64 x.Update.Timeout), .v (.int .u64 x.Map), .v (.int .i64 x.Hop), .v (.int .i64 x.PPM), .v (.int .i64 x.Algorithm)]
def ConnParams.av (x:ConnParams): AV El:=.agg x.cells
def ConnParams.dec (cs:List (AV El)): Option ConnParams:=popI .u32 cs fun a0 c0=>popI .u32 c0 fun a1 c1=>popI .i64 c1 fun a2 c2=>popI .i64 c2 fun a3 c3=>popI .i64 c3 fun a4 c4=>popI .i64 c4 fun a5 c5=>popI .i64 c5 fun a6 c6=>popI .u64 c6 fun a7 c7=>popI .i64 c7 fun a8 c8=>popI .i64 c8 fun a9 c9=>popI .i64 c9 fun a10 c10=>popE c10 ⟨a0,a1,⟨a2,a3,a4,a5,a6⟩,a7,a8,a9,a10⟩
def AdvPDU.cells (x:AdvPDU): List (AV El):= [.v (.int .i64 x.Kind), .v (.int .i64 x.Sender.Kind), .v (.int .u64 x.Sender.Bits), .v (.int .i64 x.Target.Kind), .v (.int .u64 x.Target.Bits), .sl 5 (x.Data:List (El 5)) false, .v (.int .u32 x.Conn.Access), .v (.int .u32 x.Conn.Init), .v (.int .i64 x.Conn.Update.WinSize), .v (.int .i64 x.Conn.Update.WinOffset), .v (.int .i64 x.Conn.Update.Interval), .v (.int .i64 x.Conn.Update.Latency), .v (.int .i64 x.Conn.Update.Timeout), .v (.int .u64 x.Conn.Map), .v (.int .i64 x.Conn.Hop), .v (.int .i64 x.Conn.PPM), .v (.int .i64 x.Conn.Algorithm)]
def AdvPDU.av (x:AdvPDU): AV El:=.agg x.cells
def AdvPDU.dec (cs:List (AV El)): Option AdvPDU:=popI .i64 cs fun a0 c0=>popI .i64 c0 fun a1 c1=>popI .u64 c1 fun a2 c2=>popI .i64 c2 fun a3 c3=>popI .u64 c3 fun a4 c4=>popS 5 c4 fun a5 c5=>popI .u32 c5 fun a6 c6=>popI .u32 c6 fun a7 c7=>popI .i64 c7 fun a8 c8=>popI .i64 c8 fun a9 c9=>popI .i64 c9 fun a10 c10=>popI .i64 c10 fun a11 c11=>popI .i64 c11 fun a12 c12=>popI .u64 c12 fun a13 c13=>popI .i64 c13 fun a14 c14=>popI .i64 c14 fun a15 c15=>popI .i64 c15 fun a16 c16=>popE c16 ⟨a0,⟨a1,a2⟩,⟨a3,a4⟩,a5,⟨a6,a7,⟨a8,a9,a10,a11,a12⟩,a13,a14,a15,a16⟩⟩
def Law22Op.cells (x:Law22Op): List (AV El):= [.v (.int .i64 x.Do), .v (.int .i64 x.Wait), .v (.int .i64 x.PDU.Kind), .v (.int .i64 x.PDU.Sender.Kind), .v (.int .u64 x.PDU.Sender.Bits), .v (.int .i64 x.PDU.Target.Kind), .v (.int .u64 x.PDU.Target.Bits), .sl 5 (x.PDU.Data:List (El 5)) false, .v (.int .u32 x.PDU.Conn.Access), .v (.int .u32 x.PDU.Conn.Init), .v (.int .i64 x.PDU.Conn.Update.WinSize), .v (.int .i64 x.PDU.Conn.Update.WinOffset), .v (.int .i64 x.PDU.Conn.Update.Interval), .v (.int .i64 x.PDU.Conn.Update.Latency), .v (.int .i64 x.PDU.Conn.Update.Timeout), .v (.int .u64 x.PDU.Conn.Map), .v (.int .i64 x.PDU.Conn.Hop), .v (.int .i64 x.PDU.Conn.PPM), .v (.int .i64 x.PDU.Conn.Algorithm), .v (.int .i64 x.Channel)]
def Law22Op.av (x:Law22Op): AV El:=.agg x.cells
def Law22Op.dec (cs:List (AV El)): Option Law22Op:=popI .i64 cs fun a0 c0=>popI .i64 c0 fun a1 c1=>popI .i64 c1 fun a2 c2=>popI .i64 c2 fun a3 c3=>popI .u64 c3 fun a4 c4=>popI .i64 c4 fun a5 c5=>popI .u64 c5 fun a6 c6=>popS 5 c6 fun a7 c7=>popI .u32 c7 fun a8 c8=>popI .u32 c8 fun a9 c9=>popI .i64 c9 fun a10 c10=>popI .i64 c10 fun a11 c11=>popI .i64 c11 fun a12 c12=>popI .i64 c12 fun a13 c13=>popI .i64 c13 fun a14 c14=>popI .u64 c14 fun a15 c15=>popI .i64 c15 fun a16 c16=>popI .i64 c16 fun a17 c17=>popI .i64 c17 fun a18 c18=>popI .i64 c18 fun a19 c19=>popE c19 ⟨a0,a1,⟨a2,⟨a3,a4⟩,⟨a5,a6⟩,a7,⟨a8,a9,⟨a10,a11,a12,a13,a14⟩,a15,a16,a17,a18⟩⟩,a19⟩
def Report.cells (x:Report): List (AV El):= [.v (.int .i64 x.Time), .v (.int .i64 x.Kind), .v (.int .i64 x.Sender.Kind), .v (.int .u64 x.Sender.Bits), .v (.int .i64 x.Identity), .sl 5 (x.Data:List (El 5)) false]
def Report.av (x:Report): AV El:=.agg x.cells
def Report.dec (cs:List (AV El)): Option Report:=popI .i64 cs fun a0 c0=>popI .i64 c0 fun a1 c1=>popI .i64 c1 fun a2 c2=>popI .u64 c2 fun a3 c3=>popI .i64 c3 fun a4 c4=>popS 5 c4 fun a5 c5=>popE c5 ⟨a0,a1,⟨a2,a3⟩,a4,a5⟩
def Send.cells (x:Send): List (AV El):= [.v (.int .i64 x.Channel), .v (.int .i64 x.Time), .v (.int .i64 x.PDU.Kind), .v (.int .i64 x.PDU.Sender.Kind), .v (.int .u64 x.PDU.Sender.Bits), .v (.int .i64 x.PDU.Target.Kind), .v (.int .u64 x.PDU.Target.Bits), .sl 5 (x.PDU.Data:List (El 5)) false, .v (.int .u32 x.PDU.Conn.Access), .v (.int .u32 x.PDU.Conn.Init), .v (.int .i64 x.PDU.Conn.Update.WinSize), .v (.int .i64 x.PDU.Conn.Update.WinOffset), .v (.int .i64 x.PDU.Conn.Update.Interval), .v (.int .i64 x.PDU.Conn.Update.Latency), .v (.int .i64 x.PDU.Conn.Update.Timeout), .v (.int .u64 x.PDU.Conn.Map), .v (.int .i64 x.PDU.Conn.Hop), .v (.int .i64 x.PDU.Conn.PPM), .v (.int .i64 x.PDU.Conn.Algorithm)]
def Send.av (x:Send): AV El:=.agg x.cells
def Send.dec (cs:List (AV El)): Option Send:=popI .i64 cs fun a0 c0=>popI .i64 c0 fun a1 c1=>popI .i64 c1 fun a2 c2=>popI .i64 c2 fun a3 c3=>popI .u64 c3 fun a4 c4=>popI .i64 c4 fun a5 c5=>popI .u64 c5 fun a6 c6=>popS 5 c6 fun a7 c7=>popI .u32 c7 fun a8 c8=>popI .u32 c8 fun a9 c9=>popI .i64 c9 fun a10 c10=>popI .i64 c10 fun a11 c11=>popI .i64 c11 fun a12 c12=>popI .i64 c12 fun a13 c13=>popI .i64 c13 fun a14 c14=>popI .u64 c14 fun a15 c15=>popI .i64 c15 fun a16 c16=>popI .i64 c16 fun a17 c17=>popI .i64 c17 fun a18 c18=>popE c18 ⟨a0,a1,⟨a2,⟨a3,a4⟩,⟨a5,a6⟩,a7,⟨a8,a9,⟨a10,a11,a12,a13,a14⟩,a15,a16,a17,a18⟩⟩⟩
def AdvpduForm.cells (x:AdvpduForm): List (AV El):= [.v (.bool x.known), .v (.bool x.target), .v (.bool x.data), .v (.bool x.conn)]
def AdvpduForm.av (x:AdvpduForm): AV El:=.agg x.cells
def AdvpduForm.dec (cs:List (AV El)): Option AdvpduForm:=popB cs fun a0 c0=>popB c0 fun a1 c1=>popB c1 fun a2 c2=>popB c2 fun a3 c3=>popE c3 ⟨a0,a1,a2,a3⟩
def ConnectSpan.cells (x:ConnectSpan): List (AV El):= [.v (.int .i64 x.n), .v (.int .i64 x.low), .v (.int .i64 x.high)]
def ConnectSpan.av (x:ConnectSpan): AV El:=.agg x.cells
def ConnectSpan.dec (cs:List (AV El)): Option ConnectSpan:=popI .i64 cs fun a0 c0=>popI .i64 c0 fun a1 c1=>popI .i64 c1 fun a2 c2=>popE c2 ⟨a0,a1,a2⟩
def Field.cells (x:Field): List (AV El):= [.v (.int .i64 x.Size), .v (.int .u64 x.Value)]
def Field.av (x:Field): AV El:=.agg x.cells
def Field.dec (cs:List (AV El)): Option Field:=popI .i64 cs fun a0 c0=>popI .u64 c0 fun a1 c1=>popE c1 ⟨a0,a1⟩
def ekSz:Ek→Nat
 | .e3=>1
 | .e5=>1
 | .e24=>1
 | .e26=>2
 | .e40=>1
 | .e50=>20
 | .e64=>6
 | .e67=>19
 | .e88=>3
 | .e114=>3
 | .e123=>2
 | .other=>1
def ekZ : ∀e,EkT e
 | .e3=>(0:Int)
 | .e5=>(0:Int)
 | .e24=>(0:Int)
 | .e26=>(Address.zero:Address)
 | .e40=>([]: List Int)
 | .e50=>(Law22Op.zero:Law22Op)
 | .e64=>(Report.zero:Report)
 | .e67=>(Send.zero:Send)
 | .e88=>(Identity.zero:Identity)
 | .e114=>(ConnectSpan.zero:ConnectSpan)
 | .e123=>(Field.zero:Field)
 | .other=>()
def ekCells : ∀e,EkT e→List (AV El)
 | .e3,x=>[.v (.int .i64 x)]
 | .e5,x=>[.v (.int .u8 x)]
 | .e24,x=>[.v (.int .u64 x)]
 | .e26,x=>Address.cells x
 | .e40,x=>[.sl 5 (x:List (El 5)) false]
 | .e50,x=>Law22Op.cells x
 | .e64,x=>Report.cells x
 | .e67,x=>Send.cells x
 | .e88,x=>Identity.cells x
 | .e114,x=>ConnectSpan.cells x
 | .e123,x=>Field.cells x
 | .other,_=>[.v (.bool false)]
def ekDec : ∀e,List (AV El)→Option (EkT e)
 | .e3,cs=>popI .i64 cs fun a0 c0=>popE c0 a0
 | .e5,cs=>popI .u8 cs fun a0 c0=>popE c0 a0
 | .e24,cs=>popI .u64 cs fun a0 c0=>popE c0 a0
 | .e26,cs=>Address.dec cs
 | .e40,cs=>popS 5 cs fun a0 c0=>popE c0 a0
 | .e50,cs=>Law22Op.dec cs
 | .e64,cs=>Report.dec cs
 | .e67,cs=>Send.dec cs
 | .e88,cs=>Identity.dec cs
 | .e114,cs=>ConnectSpan.dec cs
 | .e123,cs=>Field.dec cs
 | .other,_=>none
def ekBytes : ∀e,Option (ByteArray→List (EkT e))
 | .e5=>some bytesI
 | _=>none
def ekInts : ∀e,Option (List (EkT e)→List Int)
 | .e5=>some id
 | _=>none
@[reducible] def prefixes:List (El 24):= ([0,0,3,1,0]: List Int)
@[reducible] def globs:Nat→AV El:=fun g=>bif Nat.beq g 0 then .ra 24 prefixes else .any
theorem globs_lt : ∀g,lt2 0 (globs g)= true:=by intro g;unfold globs;cases Nat.beq g 0 <;> rfl
def S:Sig:={El:=El,dflt:=fun t=>ekZ (ek t),sz:=fun t=>ekSz (ek t),cell:=fun t x=>ekCells (ek t) x,dec:=fun t cs=>ekDec (ek t) cs,glob:=globs,ofBytes:=fun t=>ekBytes (ek t),toInts:=fun t=>ekInts (ek t)}
theorem Address.dec_ok : ∀cs x,Address.dec cs=some x→Imp (S:=S) cs (Address.cells x):= by
 intro cs x h
 unfold Address.dec at h
 obtain ⟨a0,c0,rfl,h0⟩:= popI_some (S:=S) h
 obtain ⟨a1,c1,rfl,h1⟩:= popI_some (S:=S) h0
 obtain ⟨rfl,rfl⟩:= popE_some (S:=S) h1
 exact (.cons (.cons (.refl _)))
theorem Identity.dec_ok : ∀cs x,Identity.dec cs=some x→Imp (S:=S) cs (Identity.cells x):= by
 intro cs x h
 unfold Identity.dec at h
 obtain ⟨a0,c0,rfl,h0⟩:= popI_some (S:=S) h
 obtain ⟨a1,c1,rfl,h1⟩:= popI_some (S:=S) h0
 obtain ⟨a2,c2,rfl,h2⟩:= popI_some (S:=S) h1
 obtain ⟨rfl,rfl⟩:= popE_some (S:=S) h2
 exact (.cons (.cons (.cons (.refl _))))
theorem ScanParams.dec_ok : ∀cs x,ScanParams.dec cs=some x→Imp (S:=S) cs (ScanParams.cells x):= by
 intro cs x h
 unfold ScanParams.dec at h
 obtain ⟨a0,c0,rfl,h0⟩:= popI_some (S:=S) h
 obtain ⟨a1,c1,rfl,h1⟩:= popI_some (S:=S) h0
 obtain ⟨a2,c2,rfl,h2⟩:= popB_some (S:=S) h1
 obtain ⟨a3,c3,rfl,h3⟩:= popI_some (S:=S) h2
 obtain ⟨a4,c4,h4,k4⟩:= popS_some (S:=S) h3
 obtain ⟨a5,c5,h5,k5⟩:= popS_some (S:=S) h4
 obtain ⟨a6,c6,rfl,h6⟩:= popI_some (S:=S) h5
 obtain ⟨a7,c7,rfl,h7⟩:= popI_some (S:=S) h6
 obtain ⟨a8,c8,rfl,h8⟩:= popB_some (S:=S) h7
 obtain ⟨rfl,rfl⟩:= popE_some (S:=S) h8
 exact (.cons (.cons (.cons (.cons (k4 _ (k5 _ (.cons (.cons (.cons (.refl _))))))))))
theorem Law22At.dec_ok : ∀cs x,Law22At.dec cs=some x→Imp (S:=S) cs (Law22At.cells x):= by
 intro cs x h
 unfold Law22At.dec at h
 obtain ⟨a0,c0,rfl,h0⟩:= popI_some (S:=S) h
 obtain ⟨a1,c1,rfl,h1⟩:= popI_some (S:=S) h0
 obtain ⟨a2,c2,rfl,h2⟩:= popI_some (S:=S) h1
 obtain ⟨rfl,rfl⟩:= popE_some (S:=S) h2
 exact (.cons (.cons (.cons (.refl _))))
theorem Scanner.dec_ok : ∀cs x,Scanner.dec cs=some x→Imp (S:=S) cs (Scanner.cells x):= by
 intro cs x h
 unfold Scanner.dec at h
 obtain ⟨a0,c0,rfl,h0⟩:= popI_some (S:=S) h
 obtain ⟨a1,c1,rfl,h1⟩:= popI_some (S:=S) h0
 obtain ⟨a2,c2,rfl,h2⟩:= popB_some (S:=S) h1
 obtain ⟨a3,c3,rfl,h3⟩:= popI_some (S:=S) h2
 obtain ⟨a4,c4,h4,k4⟩:= popS_some (S:=S) h3
 obtain ⟨a5,c5,h5,k5⟩:= popS_some (S:=S) h4
 obtain ⟨a6,c6,rfl,h6⟩:= popI_some (S:=S) h5
 obtain ⟨a7,c7,rfl,h7⟩:= popI_some (S:=S) h6
 obtain ⟨a8,c8,rfl,h8⟩:= popB_some (S:=S) h7
 obtain ⟨a9,c9,rfl,h9⟩:= popB_some (S:=S) h8
 obtain ⟨a10,c10,rfl,h10⟩:= popI_some (S:=S) h9
 obtain ⟨a11,c11,rfl,h11⟩:= popI_some (S:=S) h10
 obtain ⟨a12,c12,rfl,h12⟩:= popI_some (S:=S) h11
 obtain ⟨a13,c13,rfl,h13⟩:= popI_some (S:=S) h12
 obtain ⟨a14,c14,rfl,h14⟩:= popI_some (S:=S) h13
 obtain ⟨a15,c15,rfl,h15⟩:= popI_some (S:=S) h14
 obtain ⟨a16,c16,rfl,h16⟩:= popI_some (S:=S) h15
 obtain ⟨a17,c17,h17,k17⟩:= popS_some (S:=S) h16
 obtain ⟨a18,c18,rfl,h18⟩:= popI_some (S:=S) h17
 obtain ⟨rfl,rfl⟩:= popE_some (S:=S) h18
 exact (.cons (.cons (.cons (.cons (k4 _ (k5 _ (.cons (.cons (.cons (.cons (.cons (.cons (.cons (.cons (.cons (.cons (.cons (k17 _ (.cons (.refl _))))))))))))))))))))
theorem Update.dec_ok : ∀cs x,Update.dec cs=some x→Imp (S:=S) cs (Update.cells x):= by
 intro cs x h
 unfold Update.dec at h
 obtain ⟨a0,c0,rfl,h0⟩:= popI_some (S:=S) h
 obtain ⟨a1,c1,rfl,h1⟩:= popI_some (S:=S) h0
 obtain ⟨a2,c2,rfl,h2⟩:= popI_some (S:=S) h1
 obtain ⟨a3,c3,rfl,h3⟩:= popI_some (S:=S) h2
 obtain ⟨a4,c4,rfl,h4⟩:= popI_some (S:=S) h3
 obtain ⟨rfl,rfl⟩:= popE_some (S:=S) h4
 exact (.cons (.cons (.cons (.cons (.cons (.refl _))))))
theorem ConnParams.dec_ok : ∀cs x,ConnParams.dec cs=some x→Imp (S:=S) cs (ConnParams.cells x):= by
 intro cs x h
 unfold ConnParams.dec at h
 obtain ⟨a0,c0,rfl,h0⟩:= popI_some (S:=S) h
 obtain ⟨a1,c1,rfl,h1⟩:= popI_some (S:=S) h0
 obtain ⟨a2,c2,rfl,h2⟩:= popI_some (S:=S) h1
 obtain ⟨a3,c3,rfl,h3⟩:= popI_some (S:=S) h2
 obtain ⟨a4,c4,rfl,h4⟩:= popI_some (S:=S) h3
 obtain ⟨a5,c5,rfl,h5⟩:= popI_some (S:=S) h4
 obtain ⟨a6,c6,rfl,h6⟩:= popI_some (S:=S) h5
 obtain ⟨a7,c7,rfl,h7⟩:= popI_some (S:=S) h6
 obtain ⟨a8,c8,rfl,h8⟩:= popI_some (S:=S) h7
 obtain ⟨a9,c9,rfl,h9⟩:= popI_some (S:=S) h8
 obtain ⟨a10,c10,rfl,h10⟩:= popI_some (S:=S) h9
 obtain ⟨rfl,rfl⟩:= popE_some (S:=S) h10
 exact (.cons (.cons (.cons (.cons (.cons (.cons (.cons (.cons (.cons (.cons (.cons (.refl _))))))))))))
theorem AdvPDU.dec_ok : ∀cs x,AdvPDU.dec cs=some x→Imp (S:=S) cs (AdvPDU.cells x):= by
 intro cs x h
 unfold AdvPDU.dec at h
 obtain ⟨a0,c0,rfl,h0⟩:= popI_some (S:=S) h
 obtain ⟨a1,c1,rfl,h1⟩:= popI_some (S:=S) h0
 obtain ⟨a2,c2,rfl,h2⟩:= popI_some (S:=S) h1
 obtain ⟨a3,c3,rfl,h3⟩:= popI_some (S:=S) h2
 obtain ⟨a4,c4,rfl,h4⟩:= popI_some (S:=S) h3
 obtain ⟨a5,c5,h5,k5⟩:= popS_some (S:=S) h4
 obtain ⟨a6,c6,rfl,h6⟩:= popI_some (S:=S) h5
 obtain ⟨a7,c7,rfl,h7⟩:= popI_some (S:=S) h6
 obtain ⟨a8,c8,rfl,h8⟩:= popI_some (S:=S) h7
 obtain ⟨a9,c9,rfl,h9⟩:= popI_some (S:=S) h8
 obtain ⟨a10,c10,rfl,h10⟩:= popI_some (S:=S) h9
 obtain ⟨a11,c11,rfl,h11⟩:= popI_some (S:=S) h10
 obtain ⟨a12,c12,rfl,h12⟩:= popI_some (S:=S) h11
 obtain ⟨a13,c13,rfl,h13⟩:= popI_some (S:=S) h12
 obtain ⟨a14,c14,rfl,h14⟩:= popI_some (S:=S) h13
 obtain ⟨a15,c15,rfl,h15⟩:= popI_some (S:=S) h14
 obtain ⟨a16,c16,rfl,h16⟩:= popI_some (S:=S) h15
 obtain ⟨rfl,rfl⟩:= popE_some (S:=S) h16
 exact (.cons (.cons (.cons (.cons (.cons (k5 _ (.cons (.cons (.cons (.cons (.cons (.cons (.cons (.cons (.cons (.cons (.cons (.refl _))))))))))))))))))
theorem Law22Op.dec_ok : ∀cs x,Law22Op.dec cs=some x→Imp (S:=S) cs (Law22Op.cells x):= by
 intro cs x h
 unfold Law22Op.dec at h
 obtain ⟨a0,c0,rfl,h0⟩:= popI_some (S:=S) h
 obtain ⟨a1,c1,rfl,h1⟩:= popI_some (S:=S) h0
 obtain ⟨a2,c2,rfl,h2⟩:= popI_some (S:=S) h1
 obtain ⟨a3,c3,rfl,h3⟩:= popI_some (S:=S) h2
 obtain ⟨a4,c4,rfl,h4⟩:= popI_some (S:=S) h3
 obtain ⟨a5,c5,rfl,h5⟩:= popI_some (S:=S) h4
 obtain ⟨a6,c6,rfl,h6⟩:= popI_some (S:=S) h5
 obtain ⟨a7,c7,h7,k7⟩:= popS_some (S:=S) h6
 obtain ⟨a8,c8,rfl,h8⟩:= popI_some (S:=S) h7
 obtain ⟨a9,c9,rfl,h9⟩:= popI_some (S:=S) h8
 obtain ⟨a10,c10,rfl,h10⟩:= popI_some (S:=S) h9
 obtain ⟨a11,c11,rfl,h11⟩:= popI_some (S:=S) h10
 obtain ⟨a12,c12,rfl,h12⟩:= popI_some (S:=S) h11
 obtain ⟨a13,c13,rfl,h13⟩:= popI_some (S:=S) h12
 obtain ⟨a14,c14,rfl,h14⟩:= popI_some (S:=S) h13
 obtain ⟨a15,c15,rfl,h15⟩:= popI_some (S:=S) h14
 obtain ⟨a16,c16,rfl,h16⟩:= popI_some (S:=S) h15
 obtain ⟨a17,c17,rfl,h17⟩:= popI_some (S:=S) h16
 obtain ⟨a18,c18,rfl,h18⟩:= popI_some (S:=S) h17
 obtain ⟨a19,c19,rfl,h19⟩:= popI_some (S:=S) h18
 obtain ⟨rfl,rfl⟩:= popE_some (S:=S) h19
 exact (.cons (.cons (.cons (.cons (.cons (.cons (.cons (k7 _ (.cons (.cons (.cons (.cons (.cons (.cons (.cons (.cons (.cons (.cons (.cons (.cons (.refl _)))))))))))))))))))))
theorem Report.dec_ok : ∀cs x,Report.dec cs=some x→Imp (S:=S) cs (Report.cells x):= by
 intro cs x h
 unfold Report.dec at h
 obtain ⟨a0,c0,rfl,h0⟩:= popI_some (S:=S) h
 obtain ⟨a1,c1,rfl,h1⟩:= popI_some (S:=S) h0
 obtain ⟨a2,c2,rfl,h2⟩:= popI_some (S:=S) h1
 obtain ⟨a3,c3,rfl,h3⟩:= popI_some (S:=S) h2
 obtain ⟨a4,c4,rfl,h4⟩:= popI_some (S:=S) h3
 obtain ⟨a5,c5,h5,k5⟩:= popS_some (S:=S) h4
 obtain ⟨rfl,rfl⟩:= popE_some (S:=S) h5
 exact (.cons (.cons (.cons (.cons (.cons (k5 _ (.refl _)))))))
theorem Send.dec_ok : ∀cs x,Send.dec cs=some x→Imp (S:=S) cs (Send.cells x):= by
 intro cs x h
 unfold Send.dec at h
 obtain ⟨a0,c0,rfl,h0⟩:= popI_some (S:=S) h
 obtain ⟨a1,c1,rfl,h1⟩:= popI_some (S:=S) h0
 obtain ⟨a2,c2,rfl,h2⟩:= popI_some (S:=S) h1
 obtain ⟨a3,c3,rfl,h3⟩:= popI_some (S:=S) h2
 obtain ⟨a4,c4,rfl,h4⟩:= popI_some (S:=S) h3
 obtain ⟨a5,c5,rfl,h5⟩:= popI_some (S:=S) h4
 obtain ⟨a6,c6,rfl,h6⟩:= popI_some (S:=S) h5
 obtain ⟨a7,c7,h7,k7⟩:= popS_some (S:=S) h6
 obtain ⟨a8,c8,rfl,h8⟩:= popI_some (S:=S) h7
 obtain ⟨a9,c9,rfl,h9⟩:= popI_some (S:=S) h8
 obtain ⟨a10,c10,rfl,h10⟩:= popI_some (S:=S) h9
 obtain ⟨a11,c11,rfl,h11⟩:= popI_some (S:=S) h10
 obtain ⟨a12,c12,rfl,h12⟩:= popI_some (S:=S) h11
 obtain ⟨a13,c13,rfl,h13⟩:= popI_some (S:=S) h12
 obtain ⟨a14,c14,rfl,h14⟩:= popI_some (S:=S) h13
 obtain ⟨a15,c15,rfl,h15⟩:= popI_some (S:=S) h14
 obtain ⟨a16,c16,rfl,h16⟩:= popI_some (S:=S) h15
 obtain ⟨a17,c17,rfl,h17⟩:= popI_some (S:=S) h16
 obtain ⟨a18,c18,rfl,h18⟩:= popI_some (S:=S) h17
 obtain ⟨rfl,rfl⟩:= popE_some (S:=S) h18
 exact (.cons (.cons (.cons (.cons (.cons (.cons (.cons (k7 _ (.cons (.cons (.cons (.cons (.cons (.cons (.cons (.cons (.cons (.cons (.cons (.refl _))))))))))))))))))))
theorem AdvpduForm.dec_ok : ∀cs x,AdvpduForm.dec cs=some x→Imp (S:=S) cs (AdvpduForm.cells x):= by
 intro cs x h
 unfold AdvpduForm.dec at h
 obtain ⟨a0,c0,rfl,h0⟩:= popB_some (S:=S) h
 obtain ⟨a1,c1,rfl,h1⟩:= popB_some (S:=S) h0
 obtain ⟨a2,c2,rfl,h2⟩:= popB_some (S:=S) h1
 obtain ⟨a3,c3,rfl,h3⟩:= popB_some (S:=S) h2
 obtain ⟨rfl,rfl⟩:= popE_some (S:=S) h3
 exact (.cons (.cons (.cons (.cons (.refl _)))))
theorem ConnectSpan.dec_ok : ∀cs x,ConnectSpan.dec cs=some x→Imp (S:=S) cs (ConnectSpan.cells x):= by
 intro cs x h
 unfold ConnectSpan.dec at h
 obtain ⟨a0,c0,rfl,h0⟩:= popI_some (S:=S) h
 obtain ⟨a1,c1,rfl,h1⟩:= popI_some (S:=S) h0
 obtain ⟨a2,c2,rfl,h2⟩:= popI_some (S:=S) h1
 obtain ⟨rfl,rfl⟩:= popE_some (S:=S) h2
 exact (.cons (.cons (.cons (.refl _))))
theorem Field.dec_ok : ∀cs x,Field.dec cs=some x→Imp (S:=S) cs (Field.cells x):= by
 intro cs x h
 unfold Field.dec at h
 obtain ⟨a0,c0,rfl,h0⟩:= popI_some (S:=S) h
 obtain ⟨a1,c1,rfl,h1⟩:= popI_some (S:=S) h0
 obtain ⟨rfl,rfl⟩:= popE_some (S:=S) h1
 exact (.cons (.cons (.refl _)))
theorem ek_len : ∀e (x:EkT e),(ekCells e x).length=ekSz e:=by intro e x;cases e <;> rfl
theorem ek_pos : ∀e,0 < ekSz e:=by intro e;cases e <;> decide
theorem ek_flat : ∀e (x:EkT e) c,c∈ekCells e x→lt0 0 c=true∧one c=true:=by
 intro e x c hc
 have:(ekCells e x).all (fun c=>lt0 0 c && one c)= true:=by cases e <;> rfl
 have:=List.all_eq_true.1 this c hc
 simpa using this
theorem ek_unif : ∀e (x:EkT e),(ekCells e x).map isScal=(ekCells e (ekZ e)).map isScal:=by intro e x;cases e <;> rfl
theorem ek_dec : ∀e cs (x:EkT e),ekDec e cs=some x→Imp (S:=S) cs (ekCells e x):= by
 intro e cs x h
 cases e with
 | e3 =>
  obtain ⟨a0,c0,rfl,h0⟩:= popI_some (S:=S) h
  obtain ⟨rfl,rfl⟩:= popE_some (S:=S) h0
  exact .refl _
 | e5 =>
  obtain ⟨a0,c0,rfl,h0⟩:= popI_some (S:=S) h
  obtain ⟨rfl,rfl⟩:= popE_some (S:=S) h0
  exact .refl _
 | e24 =>
  obtain ⟨a0,c0,rfl,h0⟩:= popI_some (S:=S) h
  obtain ⟨rfl,rfl⟩:= popE_some (S:=S) h0
  exact .refl _
 | e26=>exact Address.dec_ok cs x h
 | e40 =>
  have h:popS (El:=El) 5 cs (fun a0 c0=>popE c0 a0)= some x:=h
  obtain ⟨a0,c0,h0,k0⟩:= popS_some (S:=S) (t:=5) h
  obtain ⟨rfl,rfl⟩:= popE_some (S:=S) h0
  exact k0 _ (.refl _)
 | e50=>exact Law22Op.dec_ok cs x h
 | e64=>exact Report.dec_ok cs x h
 | e67=>exact Send.dec_ok cs x h
 | e88=>exact Identity.dec_ok cs x h
 | e114=>exact ConnectSpan.dec_ok cs x h
 | e123=>exact Field.dec_ok cs x h
 | other=>cases h
theorem bytesI_len (s:ByteArray): (bytesI s).length=s.size:=by simp [bytesI]
theorem ek_bytes : ∀e f,ekBytes e=some f→ekSz e=1∧∀s:ByteArray,(f s).length=s.size∧∀i,i < s.size→ekCells e ((f s).getD i (ekZ e))= [.v (.int .u8 ((bytesI s).getD i 0))]:= by
 intro e f h
 cases e <;> simp only [ekBytes,reduceCtorEq,Option.some.injEq] at h
 all_goals
  subst h
  exact ⟨rfl,fun s=>⟨bytesI_len s,fun i hi=>rfl⟩⟩
theorem ek_ints : ∀e f,ekInts e=some f→ekSz e=1∧∀xs:List (EkT e),(f xs).length=xs.length∧∀i,i < xs.length→ekCells e (xs.getD i (ekZ e))= [.v (.int .u8 ((f xs).getD i 0))]:= by
 intro e f h
 cases e <;> simp only [ekInts,reduceCtorEq,Option.some.injEq] at h
 all_goals
  subst h
  exact ⟨rfl,fun xs=>⟨rfl,fun i hi=>rfl⟩⟩
theorem sigOk:SigOk S:=⟨fun t x=>ek_len _ x,fun t=>ek_pos _,fun t x c hc=>ek_flat _ x c hc,globs_lt,fun t cs x h=>ek_dec _ cs x h,fun t f h=>ek_ints _ f h,fun t f h=>ek_bytes _ f h,fun t x=>ek_unif _ x⟩
theorem mixed:Tryz.prog.follows .mixedOrders=true:=by kernel_rfl
def tab0:List (FuncId×Ct El):= []
theorem tab0_ok:TabOk Tryz.prog S tab0:=trivial
end Go.Aw.W
