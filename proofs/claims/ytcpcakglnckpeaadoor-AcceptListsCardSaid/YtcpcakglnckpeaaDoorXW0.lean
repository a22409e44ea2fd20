/- The data of the seat, typed: structs, the elements of slices, how they lie in cells (printed by gen_sig.py). -/
import Derived.Test.YtcpcakglnckpeaaDoorRows
import Derived.Test.YtcpcakglnckpeaaDoorXAwB
import Derived.Test.YtcpcakglnckpeaaDoorXAwU
set_option linter.unusedVariables false
namespace Go.Aw.W
open Go Go.Aw Go.Proofs
structure Address where
  Kind : Int
  Bits : Int
@[reducible] def Address.zero : Address := ⟨0, 0⟩
structure Law20Ask where
  Policy : Int
  Request : Int
  From : Address
@[reducible] def Law20Ask.zero : Law20Ask := ⟨0, 0, Address.zero⟩
structure Law20Step where
  Add : Bool
  Address : Address
@[reducible] def Law20Step.zero : Law20Step := ⟨false, Address.zero⟩
structure Update where
  WinSize : Int
  WinOffset : Int
  Interval : Int
  Latency : Int
  Timeout : Int
@[reducible] def Update.zero : Update := ⟨0, 0, 0, 0, 0⟩
structure ConnParams where
  Access : Int
  Init : Int
  Update : Update
  Map : Int
  Hop : Int
  PPM : Int
  Algorithm : Int
@[reducible] def ConnParams.zero : ConnParams := ⟨0, 0, Update.zero, 0, 0, 0, 0⟩
structure AdvPDU where
  Kind : Int
  Sender : Address
  Target : Address
  Data : List Int
  Conn : ConnParams
@[reducible] def AdvPDU.zero : AdvPDU := ⟨0, Address.zero, Address.zero, [], ConnParams.zero⟩
structure Identity where
  Address : Address
  IRK : Int
@[reducible] def Identity.zero : Identity := ⟨Address.zero, 0⟩
structure AdvpduForm where
  known : Bool
  target : Bool
  data : Bool
  conn : Bool
@[reducible] def AdvpduForm.zero : AdvpduForm := ⟨false, false, false, false⟩
structure Field where
  Size : Int
  Value : Int
@[reducible] def Field.zero : Field := ⟨0, 0⟩
structure ConnectSpan where
  n : Int
  low : Int
  high : Int
@[reducible] def ConnectSpan.zero : ConnectSpan := ⟨0, 0, 0⟩
/-- What lies in slices. -/
inductive Ek where
  | e3
  | e5
  | e23
  | e25
  | e42
  | e45
  | e72
  | e95
  | e100
  | other
@[reducible] def EkT : Ek → Type
  | .e3 => Int
  | .e5 => Int
  | .e23 => Int
  | .e25 => Address
  | .e42 => Law20Step
  | .e45 => List Int
  | .e72 => Identity
  | .e95 => Field
  | .e100 => ConnectSpan
  | .other => Unit
@[reducible] def ek : TypeId → Ek
  | 3 => .e3
  | 5 => .e5
  | 23 => .e23
  | 25 => .e25
  | 42 => .e42
  | 45 => .e45
  | 72 => .e72
  | 95 => .e95
  | 100 => .e100
  | _ => .other
@[reducible] def El (t : TypeId) : Type := EkT (ek t)
def Address.cells (x : Address) : List (AV El) := [.v (.int .i64 x.Kind), .v (.int .u64 x.Bits)]
def Address.av (x : Address) : AV El := .agg x.cells
def Address.dec (cs : List (AV El)) : Option Address := popI .i64 cs fun a0 c0 => popI .u64 c0 fun a1 c1 => popE c1 ⟨a0, a1⟩
def Law20Ask.cells (x : Law20Ask) : List (AV El) := [.v (.int .i64 x.Policy), .v (.int .i64 x.Request), .v (.int .i64 x.From.Kind), .v (.int .u64 x.From.Bits)]
def Law20Ask.av (x : Law20Ask) : AV El := .agg x.cells
def Law20Ask.dec (cs : List (AV El)) : Option Law20Ask := popI .i64 cs fun a0 c0 => popI .i64 c0 fun a1 c1 => popI .i64 c1 fun a2 c2 => popI .u64 c2 fun a3 c3 => popE c3 ⟨a0, a1, ⟨a2, a3⟩⟩
def Law20Step.cells (x : Law20Step) : List (AV El) := [.v (.bool x.Add), .v (.int .i64 x.Address.Kind), .v (.int .u64 x.Address.Bits)]
def Law20Step.av (x : Law20Step) : AV El := .agg x.cells
def Law20Step.dec (cs : List (AV El)) : Option Law20Step := popB cs fun a0 c0 => popI .i64 c0 fun a1 c1 => popI .u64 c1 fun a2 c2 => popE c2 ⟨a0, ⟨a1, a2⟩⟩
def Update.cells (x : Update) : List (AV El) := [.v (.int .i64 x.WinSize), .v (.int .i64 x.WinOffset), .v (.int .i64 x.Interval), .v (.int .i64 x.Latency), .v (.int .i64 x.Timeout)]
def Update.av (x : Update) : AV El := .agg x.cells
def Update.dec (cs : List (AV El)) : Option Update := popI .i64 cs fun a0 c0 => popI .i64 c0 fun a1 c1 => popI .i64 c1 fun a2 c2 => popI .i64 c2 fun a3 c3 => popI .i64 c3 fun a4 c4 => popE c4 ⟨a0, a1, a2, a3, a4⟩
def ConnParams.cells (x : ConnParams) : List (AV El) := [.v (.int .u32 x.Access), .v (.int .u32 x.Init), .v (.int .i64 x.Update.WinSize), .v (.int .i64 x.Update.WinOffset), .v (.int .i64 x.Update.Interval), .v (.int .i64 x.Update.Latency), .v (.int .i64 x.Update.Timeout), .v (.int .u64 x.Map), .v (.int .i64 x.Hop), .v (.int .i64 x.PPM), .v (.int .i64 x.Algorithm)]
def ConnParams.av (x : ConnParams) : AV El := .agg x.cells
def ConnParams.dec (cs : List (AV El)) : Option ConnParams := popI .u32 cs fun a0 c0 => popI .u32 c0 fun a1 c1 => popI .i64 c1 fun a2 c2 => popI .i64 c2 fun a3 c3 => popI .i64 c3 fun a4 c4 => popI .i64 c4 fun a5 c5 => popI .i64 c5 fun a6 c6 => popI .u64 c6 fun a7 c7 => popI .i64 c7 fun a8 c8 => popI .i64 c8 fun a9 c9 => popI .i64 c9 fun a10 c10 => popE c10 ⟨a0, a1, ⟨a2, a3, a4, a5, a6⟩, a7, a8, a9, a10⟩
def AdvPDU.cells (x : AdvPDU) : List (AV El) := [.v (.int .i64 x.Kind), .v (.int .i64 x.Sender.Kind), .v (.int .u64 x.Sender.Bits), .v (.int .i64 x.Target.Kind), .v (.int .u64 x.Target.Bits), .sl 5 (x.Data : List (El 5)) false, .v (.int .u32 x.Conn.Access), .v (.int .u32 x.Conn.Init), .v (.int .i64 x.Conn.Update.WinSize), .v (.int .i64 x.Conn.Update.WinOffset), .v (.int .i64 x.Conn.Update.Interval), .v (.int .i64 x.Conn.Update.Latency), .v (.int .i64 x.Conn.Update.Timeout), .v (.int .u64 x.Conn.Map), .v (.int .i64 x.Conn.Hop), .v (.int .i64 x.Conn.PPM), .v (.int .i64 x.Conn.Algorithm)]
def AdvPDU.av (x : AdvPDU) : AV El := .agg x.cells
def AdvPDU.dec (cs : List (AV El)) : Option AdvPDU := popI .i64 cs fun a0 c0 => popI .i64 c0 fun a1 c1 => popI .u64 c1 fun a2 c2 => popI .i64 c2 fun a3 c3 => popI .u64 c3 fun a4 c4 => popS 5 c4 fun a5 c5 => popI .u32 c5 fun a6 c6 => popI .u32 c6 fun a7 c7 => popI .i64 c7 fun a8 c8 => popI .i64 c8 fun a9 c9 => popI .i64 c9 fun a10 c10 => popI .i64 c10 fun a11 c11 => popI .i64 c11 fun a12 c12 => popI .u64 c12 fun a13 c13 => popI .i64 c13 fun a14 c14 => popI .i64 c14 fun a15 c15 => popI .i64 c15 fun a16 c16 => popE c16 ⟨a0, ⟨a1, a2⟩, ⟨a3, a4⟩, a5, ⟨a6, a7, ⟨a8, a9, a10, a11, a12⟩, a13, a14, a15, a16⟩⟩
def Identity.cells (x : Identity) : List (AV El) := [.v (.int .i64 x.Address.Kind), .v (.int .u64 x.Address.Bits), .v (.int .u64 x.IRK)]
def Identity.av (x : Identity) : AV El := .agg x.cells
def Identity.dec (cs : List (AV El)) : Option Identity := popI .i64 cs fun a0 c0 => popI .u64 c0 fun a1 c1 => popI .u64 c1 fun a2 c2 => popE c2 ⟨⟨a0, a1⟩, a2⟩
def AdvpduForm.cells (x : AdvpduForm) : List (AV El) := [.v (.bool x.known), .v (.bool x.target), .v (.bool x.data), .v (.bool x.conn)]
def AdvpduForm.av (x : AdvpduForm) : AV El := .agg x.cells
def AdvpduForm.dec (cs : List (AV El)) : Option AdvpduForm := popB cs fun a0 c0 => popB c0 fun a1 c1 => popB c1 fun a2 c2 => popB c2 fun a3 c3 => popE c3 ⟨a0, a1, a2, a3⟩
def Field.cells (x : Field) : List (AV El) := [.v (.int .i64 x.Size), .v (.int .u64 x.Value)]
def Field.av (x : Field) : AV El := .agg x.cells
def Field.dec (cs : List (AV El)) : Option Field := popI .i64 cs fun a0 c0 => popI .u64 c0 fun a1 c1 => popE c1 ⟨a0, a1⟩
def ConnectSpan.cells (x : ConnectSpan) : List (AV El) := [.v (.int .i64 x.n), .v (.int .i64 x.low), .v (.int .i64 x.high)]
def ConnectSpan.av (x : ConnectSpan) : AV El := .agg x.cells
def ConnectSpan.dec (cs : List (AV El)) : Option ConnectSpan := popI .i64 cs fun a0 c0 => popI .i64 c0 fun a1 c1 => popI .i64 c1 fun a2 c2 => popE c2 ⟨a0, a1, a2⟩
def ekSz : Ek → Nat
  | .e3 => 1
  | .e5 => 1
  | .e23 => 1
  | .e25 => 2
  | .e42 => 3
  | .e45 => 1
  | .e72 => 3
  | .e95 => 2
  | .e100 => 3
  | .other => 1
def ekZ : ∀ e, EkT e
  | .e3 => (0 : Int)
  | .e5 => (0 : Int)
  | .e23 => (0 : Int)
  | .e25 => (Address.zero : Address)
  | .e42 => (Law20Step.zero : Law20Step)
  | .e45 => ([] : List Int)
  | .e72 => (Identity.zero : Identity)
  | .e95 => (Field.zero : Field)
  | .e100 => (ConnectSpan.zero : ConnectSpan)
  | .other => ()
def ekCells : ∀ e, EkT e → List (AV El)
  | .e3, x => [.v (.int .i64 x)]
  | .e5, x => [.v (.int .u8 x)]
  | .e23, x => [.v (.int .u64 x)]
  | .e25, x => Address.cells x
  | .e42, x => Law20Step.cells x
  | .e45, x => [.sl 5 (x : List (El 5)) false]
  | .e72, x => Identity.cells x
  | .e95, x => Field.cells x
  | .e100, x => ConnectSpan.cells x
  | .other, _ => [.v (.bool false)]
def ekDec : ∀ e, List (AV El) → Option (EkT e)
  | .e3, cs => popI .i64 cs fun a0 c0 => popE c0 a0
  | .e5, cs => popI .u8 cs fun a0 c0 => popE c0 a0
  | .e23, cs => popI .u64 cs fun a0 c0 => popE c0 a0
  | .e25, cs => Address.dec cs
  | .e42, cs => Law20Step.dec cs
  | .e45, cs => popS 5 cs fun a0 c0 => popE c0 a0
  | .e72, cs => Identity.dec cs
  | .e95, cs => Field.dec cs
  | .e100, cs => ConnectSpan.dec cs
  | .other, _ => none
def ekBytes : ∀ e, Option (ByteArray → List (EkT e))
  | .e5 => some bytesI
  | _ => none
def ekInts : ∀ e, Option (List (EkT e) → List Int)
  | .e5 => some id
  | _ => none
@[reducible] def prefixes : List (El 23) := ([0, 0, 3, 1, 0] : List Int)
@[reducible] def globs : Nat → AV El := fun g => bif Nat.beq g 0 then .ra 23 prefixes else .any
theorem globs_lt : ∀ g, lt2 0 (globs g) = true := by intro g; unfold globs; cases Nat.beq g 0 <;> rfl
def S : Sig := { El := El, dflt := fun t => ekZ (ek t), sz := fun t => ekSz (ek t), cell := fun t x => ekCells (ek t) x, dec := fun t cs => ekDec (ek t) cs, glob := globs, ofBytes := fun t => ekBytes (ek t), toInts := fun t => ekInts (ek t) }
theorem Address.dec_ok : ∀ cs x, Address.dec cs = some x → Imp (S := S) cs (Address.cells x) := by
  intro cs x h
  unfold Address.dec at h
  obtain ⟨a0, c0, rfl, h0⟩ := popI_some (S := S) h
  obtain ⟨a1, c1, rfl, h1⟩ := popI_some (S := S) h0
  obtain ⟨rfl, rfl⟩ := popE_some (S := S) h1
  exact (.cons (.cons (.refl _)))

theorem Law20Ask.dec_ok : ∀ cs x, Law20Ask.dec cs = some x → Imp (S := S) cs (Law20Ask.cells x) := by
  intro cs x h
  unfold Law20Ask.dec at h
  obtain ⟨a0, c0, rfl, h0⟩ := popI_some (S := S) h
  obtain ⟨a1, c1, rfl, h1⟩ := popI_some (S := S) h0
  obtain ⟨a2, c2, rfl, h2⟩ := popI_some (S := S) h1
  obtain ⟨a3, c3, rfl, h3⟩ := popI_some (S := S) h2
  obtain ⟨rfl, rfl⟩ := popE_some (S := S) h3
  exact (.cons (.cons (.cons (.cons (.refl _)))))

theorem Law20Step.dec_ok : ∀ cs x, Law20Step.dec cs = some x → Imp (S := S) cs (Law20Step.cells x) := by
  intro cs x h
  unfold Law20Step.dec at h
  obtain ⟨a0, c0, rfl, h0⟩ := popB_some (S := S) h
  obtain ⟨a1, c1, rfl, h1⟩ := popI_some (S := S) h0
  obtain ⟨a2, c2, rfl, h2⟩ := popI_some (S := S) h1
  obtain ⟨rfl, rfl⟩ := popE_some (S := S) h2
  exact (.cons (.cons (.cons (.refl _))))

theorem Update.dec_ok : ∀ cs x, Update.dec cs = some x → Imp (S := S) cs (Update.cells x) := by
  intro cs x h
  unfold Update.dec at h
  obtain ⟨a0, c0, rfl, h0⟩ := popI_some (S := S) h
  obtain ⟨a1, c1, rfl, h1⟩ := popI_some (S := S) h0
  obtain ⟨a2, c2, rfl, h2⟩ := popI_some (S := S) h1
  obtain ⟨a3, c3, rfl, h3⟩ := popI_some (S := S) h2
  obtain ⟨a4, c4, rfl, h4⟩ := popI_some (S := S) h3
  obtain ⟨rfl, rfl⟩ := popE_some (S := S) h4
  exact (.cons (.cons (.cons (.cons (.cons (.refl _))))))

theorem ConnParams.dec_ok : ∀ cs x, ConnParams.dec cs = some x → Imp (S := S) cs (ConnParams.cells x) := by
  intro cs x h
  unfold ConnParams.dec at h
  obtain ⟨a0, c0, rfl, h0⟩ := popI_some (S := S) h
  obtain ⟨a1, c1, rfl, h1⟩ := popI_some (S := S) h0
  obtain ⟨a2, c2, rfl, h2⟩ := popI_some (S := S) h1
  obtain ⟨a3, c3, rfl, h3⟩ := popI_some (S := S) h2
  obtain ⟨a4, c4, rfl, h4⟩ := popI_some (S := S) h3
  obtain ⟨a5, c5, rfl, h5⟩ := popI_some (S := S) h4
  obtain ⟨a6, c6, rfl, h6⟩ := popI_some (S := S) h5
  obtain ⟨a7, c7, rfl, h7⟩ := popI_some (S := S) h6
  obtain ⟨a8, c8, rfl, h8⟩ := popI_some (S := S) h7
  obtain ⟨a9, c9, rfl, h9⟩ := popI_some (S := S) h8
  obtain ⟨a10, c10, rfl, h10⟩ := popI_some (S := S) h9
  obtain ⟨rfl, rfl⟩ := popE_some (S := S) h10
  exact (.cons (.cons (.cons (.cons (.cons (.cons (.cons (.cons (.cons (.cons (.cons (.refl _))))))))))))

theorem AdvPDU.dec_ok : ∀ cs x, AdvPDU.dec cs = some x → Imp (S := S) cs (AdvPDU.cells x) := by
  intro cs x h
  unfold AdvPDU.dec at h
  obtain ⟨a0, c0, rfl, h0⟩ := popI_some (S := S) h
  obtain ⟨a1, c1, rfl, h1⟩ := popI_some (S := S) h0
  obtain ⟨a2, c2, rfl, h2⟩ := popI_some (S := S) h1
  obtain ⟨a3, c3, rfl, h3⟩ := popI_some (S := S) h2
  obtain ⟨a4, c4, rfl, h4⟩ := popI_some (S := S) h3
  obtain ⟨a5, c5, h5, k5⟩ := popS_some (S := S) h4
  obtain ⟨a6, c6, rfl, h6⟩ := popI_some (S := S) h5
  obtain ⟨a7, c7, rfl, h7⟩ := popI_some (S := S) h6
  obtain ⟨a8, c8, rfl, h8⟩ := popI_some (S := S) h7
  obtain ⟨a9, c9, rfl, h9⟩ := popI_some (S := S) h8
  obtain ⟨a10, c10, rfl, h10⟩ := popI_some (S := S) h9
  obtain ⟨a11, c11, rfl, h11⟩ := popI_some (S := S) h10
  obtain ⟨a12, c12, rfl, h12⟩ := popI_some (S := S) h11
  obtain ⟨a13, c13, rfl, h13⟩ := popI_some (S := S) h12
  obtain ⟨a14, c14, rfl, h14⟩ := popI_some (S := S) h13
  obtain ⟨a15, c15, rfl, h15⟩ := popI_some (S := S) h14
  obtain ⟨a16, c16, rfl, h16⟩ := popI_some (S := S) h15
  obtain ⟨rfl, rfl⟩ := popE_some (S := S) h16
  exact (.cons (.cons (.cons (.cons (.cons (k5 _ (.cons (.cons (.cons (.cons (.cons (.cons (.cons (.cons (.cons (.cons (.cons (.refl _))))))))))))))))))

theorem Identity.dec_ok : ∀ cs x, Identity.dec cs = some x → Imp (S := S) cs (Identity.cells x) := by
  intro cs x h
  unfold Identity.dec at h
  obtain ⟨a0, c0, rfl, h0⟩ := popI_some (S := S) h
  obtain ⟨a1, c1, rfl, h1⟩ := popI_some (S := S) h0
  obtain ⟨a2, c2, rfl, h2⟩ := popI_some (S := S) h1
  obtain ⟨rfl, rfl⟩ := popE_some (S := S) h2
  exact (.cons (.cons (.cons (.refl _))))

theorem AdvpduForm.dec_ok : ∀ cs x, AdvpduForm.dec cs = some x → Imp (S := S) cs (AdvpduForm.cells x) := by
  intro cs x h
  unfold AdvpduForm.dec at h
  obtain ⟨a0, c0, rfl, h0⟩ := popB_some (S := S) h
  obtain ⟨a1, c1, rfl, h1⟩ := popB_some (S := S) h0
  obtain ⟨a2, c2, rfl, h2⟩ := popB_some (S := S) h1
  obtain ⟨a3, c3, rfl, h3⟩ := popB_some (S := S) h2
  obtain ⟨rfl, rfl⟩ := popE_some (S := S) h3
  exact (.cons (.cons (.cons (.cons (.refl _)))))

theorem Field.dec_ok : ∀ cs x, Field.dec cs = some x → Imp (S := S) cs (Field.cells x) := by
  intro cs x h
  unfold Field.dec at h
  obtain ⟨a0, c0, rfl, h0⟩ := popI_some (S := S) h
  obtain ⟨a1, c1, rfl, h1⟩ := popI_some (S := S) h0
  obtain ⟨rfl, rfl⟩ := popE_some (S := S) h1
  exact (.cons (.cons (.refl _)))

theorem ConnectSpan.dec_ok : ∀ cs x, ConnectSpan.dec cs = some x → Imp (S := S) cs (ConnectSpan.cells x) := by
  intro cs x h
  unfold ConnectSpan.dec at h
  obtain ⟨a0, c0, rfl, h0⟩ := popI_some (S := S) h
  obtain ⟨a1, c1, rfl, h1⟩ := popI_some (S := S) h0
  obtain ⟨a2, c2, rfl, h2⟩ := popI_some (S := S) h1
  obtain ⟨rfl, rfl⟩ := popE_some (S := S) h2
  exact (.cons (.cons (.cons (.refl _))))

theorem ek_len : ∀ e (x : EkT e), (ekCells e x).length = ekSz e := by intro e x; cases e <;> rfl
theorem ek_pos : ∀ e, 0 < ekSz e := by intro e; cases e <;> decide
theorem ek_flat : ∀ e (x : EkT e) c, c ∈ ekCells e x → lt0 0 c = true ∧ one c = true := by
  intro e x c hc
  have : (ekCells e x).all (fun c => lt0 0 c && one c) = true := by cases e <;> rfl
  have := List.all_eq_true.1 this c hc
  simpa using this
theorem ek_unif : ∀ e (x : EkT e), (ekCells e x).map isScal = (ekCells e (ekZ e)).map isScal := by intro e x; cases e <;> rfl
theorem ek_dec : ∀ e cs (x : EkT e), ekDec e cs = some x → Imp (S := S) cs (ekCells e x) := by
  intro e cs x h
  cases e with
  | e3 =>
    obtain ⟨a0, c0, rfl, h0⟩ := popI_some (S := S) h
    obtain ⟨rfl, rfl⟩ := popE_some (S := S) h0
    exact .refl _
  | e5 =>
    obtain ⟨a0, c0, rfl, h0⟩ := popI_some (S := S) h
    obtain ⟨rfl, rfl⟩ := popE_some (S := S) h0
    exact .refl _
  | e23 =>
    obtain ⟨a0, c0, rfl, h0⟩ := popI_some (S := S) h
    obtain ⟨rfl, rfl⟩ := popE_some (S := S) h0
    exact .refl _
  | e25 => exact Address.dec_ok cs x h
  | e42 => exact Law20Step.dec_ok cs x h
  | e45 =>
    have h : popS (El := El) 5 cs (fun a0 c0 => popE c0 a0) = some x := h
    obtain ⟨a0, c0, h0, k0⟩ := popS_some (S := S) (t := 5) h
    obtain ⟨rfl, rfl⟩ := popE_some (S := S) h0
    exact k0 _ (.refl _)
  | e72 => exact Identity.dec_ok cs x h
  | e95 => exact Field.dec_ok cs x h
  | e100 => exact ConnectSpan.dec_ok cs x h
  | other => cases h
theorem bytesI_len (s : ByteArray) : (bytesI s).length = s.size := by simp [bytesI]
theorem ek_bytes : ∀ e f, ekBytes e = some f → ekSz e = 1 ∧ ∀ s : ByteArray, (f s).length = s.size ∧ ∀ i, i < s.size → ekCells e ((f s).getD i (ekZ e)) = [.v (.int .u8 ((bytesI s).getD i 0))] := by
  intro e f h
  cases e <;> simp only [ekBytes, reduceCtorEq, Option.some.injEq] at h
  all_goals
    subst h
    exact ⟨rfl, fun s => ⟨bytesI_len s, fun i hi => rfl⟩⟩
theorem ek_ints : ∀ e f, ekInts e = some f → ekSz e = 1 ∧ ∀ xs : List (EkT e), (f xs).length = xs.length ∧ ∀ i, i < xs.length → ekCells e (xs.getD i (ekZ e)) = [.v (.int .u8 ((f xs).getD i 0))] := by
  intro e f h
  cases e <;> simp only [ekInts, reduceCtorEq, Option.some.injEq] at h
  all_goals
    subst h
    exact ⟨rfl, fun xs => ⟨rfl, fun i hi => rfl⟩⟩
theorem sigOk : SigOk S := ⟨fun t x => ek_len _ x, fun t => ek_pos _, fun t x c hc => ek_flat _ x c hc, globs_lt, fun t cs x h => ek_dec _ cs x h, fun t f h => ek_ints _ f h, fun t f h => ek_bytes _ f h, fun t x => ek_unif _ x⟩
theorem mixed : Tryd.prog.follows .mixedOrders = true := by kernel_rfl
def tab0 : List (FuncId × Ct El) := []
theorem tab0_ok : TabOk Tryd.prog S tab0 := trivial
end Go.Aw.W
