/- The data of the seat, typed: structs, the elements of slices, how they lie in cells (printed by gen_sig.py). -/
import Derived.Test.YtkngobfkfleacaaRows
import Derived.Test.YtkngobfkfleacaaAwB
set_option linter.unusedVariables false
namespace Go.Aw.W
open Go Go.Aw Go.Proofs
structure Update where
  WinSize : Int
  WinOffset : Int
  Interval : Int
  Latency : Int
  Timeout : Int
@[reducible] def Update.zero : Update := ⟨0, 0, 0, 0, 0⟩
structure ConnParams where
  Access : Int
  Init : Int
  Update : Update
  Map : Int
  Hop : Int
  PPM : Int
  Algorithm : Int
@[reducible] def ConnParams.zero : ConnParams := ⟨0, 0, Update.zero, 0, 0, 0, 0⟩
structure Window where
  Start : Int
  End : Int
@[reducible] def Window.zero : Window := ⟨0, 0⟩
structure Law17Wait where
  Anchor : Int
  N : Int
  PPM : Int
@[reducible] def Law17Wait.zero : Law17Wait := ⟨0, 0, 0⟩
structure Clock where
  PPM : Int
  Start : Int
@[reducible] def Clock.zero : Clock := ⟨0, 0⟩
structure Law17Two where
  A : Clock
  B : Clock
@[reducible] def Law17Two.zero : Law17Two := ⟨Clock.zero, Clock.zero⟩
structure Law17Beat where
  Time : Int
  N : Int
  More : Int
  X : Int
@[reducible] def Law17Beat.zero : Law17Beat := ⟨0, 0, 0, 0⟩
structure ConnectSpan where
  n : Int
  low : Int
  high : Int
@[reducible] def ConnectSpan.zero : ConnectSpan := ⟨0, 0, 0⟩
structure Field where
  Size : Int
  Value : Int
@[reducible] def Field.zero : Field := ⟨0, 0⟩
structure Arr63 where
  e0 : Update
  e1 : Update
@[reducible] def Arr63.zero : Arr63 := ⟨Update.zero, Update.zero⟩
/-- What lies in slices. -/
inductive Ek where
  | e3
  | e5
  | e25
  | e34
  | e69
  | e73
  | other
@[reducible] def EkT : Ek → Type
  | .e3 => Int
  | .e5 => Int
  | .e25 => Int
  | .e34 => List Int
  | .e69 => ConnectSpan
  | .e73 => Field
  | .other => Unit
@[reducible] def ek : TypeId → Ek
  | 3 => .e3
  | 5 => .e5
  | 25 => .e25
  | 34 => .e34
  | 69 => .e69
  | 73 => .e73
  | _ => .other
@[reducible] def El (t : TypeId) : Type := EkT (ek t)
def Update.cells (x : Update) : List (AV El) := [.v (.int .i64 x.WinSize), .v (.int .i64 x.WinOffset), .v (.int .i64 x.Interval), .v (.int .i64 x.Latency), .v (.int .i64 x.Timeout)]
def Update.av (x : Update) : AV El := .agg x.cells
def Update.dec (cs : List (AV El)) : Option Update := popI .i64 cs fun a0 c0 => popI .i64 c0 fun a1 c1 => popI .i64 c1 fun a2 c2 => popI .i64 c2 fun a3 c3 => popI .i64 c3 fun a4 c4 => popE c4 ⟨a0, a1, a2, a3, a4⟩
def ConnParams.cells (x : ConnParams) : List (AV El) := [.v (.int .u32 x.Access), .v (.int .u32 x.Init), .v (.int .i64 x.Update.WinSize), .v (.int .i64 x.Update.WinOffset), .v (.int .i64 x.Update.Interval), .v (.int .i64 x.Update.Latency), .v (.int .i64 x.Update.Timeout), .v (.int .u64 x.Map), .v (.int .i64 x.Hop), .v (.int .i64 x.PPM), .v (.int .i64 x.Algorithm)]
def ConnParams.av (x : ConnParams) : AV El := .agg x.cells
def ConnParams.dec (cs : List (AV El)) : Option ConnParams := popI .u32 cs fun a0 c0 => popI .u32 c0 fun a1 c1 => popI .i64 c1 fun a2 c2 => popI .i64 c2 fun a3 c3 => popI .i64 c3 fun a4 c4 => popI .i64 c4 fun a5 c5 => popI .i64 c5 fun a6 c6 => popI .u64 c6 fun a7 c7 => popI .i64 c7 fun a8 c8 => popI .i64 c8 fun a9 c9 => popI .i64 c9 fun a10 c10 => popE c10 ⟨a0, a1, ⟨a2, a3, a4, a5, a6⟩, a7, a8, a9, a10⟩
def Window.cells (x : Window) : List (AV El) := [.v (.int .i64 x.Start), .v (.int .i64 x.End)]
def Window.av (x : Window) : AV El := .agg x.cells
def Window.dec (cs : List (AV El)) : Option Window := popI .i64 cs fun a0 c0 => popI .i64 c0 fun a1 c1 => popE c1 ⟨a0, a1⟩
def Law17Wait.cells (x : Law17Wait) : List (AV El) := [.v (.int .i64 x.Anchor), .v (.int .i64 x.N), .v (.int .i64 x.PPM)]
def Law17Wait.av (x : Law17Wait) : AV El := .agg x.cells
def Law17Wait.dec (cs : List (AV El)) : Option Law17Wait := popI .i64 cs fun a0 c0 => popI .i64 c0 fun a1 c1 => popI .i64 c1 fun a2 c2 => popE c2 ⟨a0, a1, a2⟩
def Clock.cells (x : Clock) : List (AV El) := [.v (.int .i64 x.PPM), .v (.int .i64 x.Start)]
def Clock.av (x : Clock) : AV El := .agg x.cells
def Clock.dec (cs : List (AV El)) : Option Clock := popI .i64 cs fun a0 c0 => popI .i64 c0 fun a1 c1 => popE c1 ⟨a0, a1⟩
def Law17Two.cells (x : Law17Two) : List (AV El) := [.v (.int .i64 x.A.PPM), .v (.int .i64 x.A.Start), .v (.int .i64 x.B.PPM), .v (.int .i64 x.B.Start)]
def Law17Two.av (x : Law17Two) : AV El := .agg x.cells
def Law17Two.dec (cs : List (AV El)) : Option Law17Two := popI .i64 cs fun a0 c0 => popI .i64 c0 fun a1 c1 => popI .i64 c1 fun a2 c2 => popI .i64 c2 fun a3 c3 => popE c3 ⟨⟨a0, a1⟩, ⟨a2, a3⟩⟩
def Law17Beat.cells (x : Law17Beat) : List (AV El) := [.v (.int .i64 x.Time), .v (.int .i64 x.N), .v (.int .i64 x.More), .v (.int .i64 x.X)]
def Law17Beat.av (x : Law17Beat) : AV El := .agg x.cells
def Law17Beat.dec (cs : List (AV El)) : Option Law17Beat := popI .i64 cs fun a0 c0 => popI .i64 c0 fun a1 c1 => popI .i64 c1 fun a2 c2 => popI .i64 c2 fun a3 c3 => popE c3 ⟨a0, a1, a2, a3⟩
def ConnectSpan.cells (x : ConnectSpan) : List (AV El) := [.v (.int .i64 x.n), .v (.int .i64 x.low), .v (.int .i64 x.high)]
def ConnectSpan.av (x : ConnectSpan) : AV El := .agg x.cells
def ConnectSpan.dec (cs : List (AV El)) : Option ConnectSpan := popI .i64 cs fun a0 c0 => popI .i64 c0 fun a1 c1 => popI .i64 c1 fun a2 c2 => popE c2 ⟨a0, a1, a2⟩
def Field.cells (x : Field) : List (AV El) := [.v (.int .i64 x.Size), .v (.int .u64 x.Value)]
def Field.av (x : Field) : AV El := .agg x.cells
def Field.dec (cs : List (AV El)) : Option Field := popI .i64 cs fun a0 c0 => popI .u64 c0 fun a1 c1 => popE c1 ⟨a0, a1⟩
def Arr63.cells (x : Arr63) : List (AV El) := [.v (.int .i64 x.e0.WinSize), .v (.int .i64 x.e0.WinOffset), .v (.int .i64 x.e0.Interval), .v (.int .i64 x.e0.Latency), .v (.int .i64 x.e0.Timeout), .v (.int .i64 x.e1.WinSize), .v (.int .i64 x.e1.WinOffset), .v (.int .i64 x.e1.Interval), .v (.int .i64 x.e1.Latency), .v (.int .i64 x.e1.Timeout)]
def Arr63.av (x : Arr63) : AV El := .agg x.cells
def Arr63.dec (cs : List (AV El)) : Option Arr63 := popI .i64 cs fun a0 c0 => popI .i64 c0 fun a1 c1 => popI .i64 c1 fun a2 c2 => popI .i64 c2 fun a3 c3 => popI .i64 c3 fun a4 c4 => popI .i64 c4 fun a5 c5 => popI .i64 c5 fun a6 c6 => popI .i64 c6 fun a7 c7 => popI .i64 c7 fun a8 c8 => popI .i64 c8 fun a9 c9 => popE c9 ⟨⟨a0, a1, a2, a3, a4⟩, ⟨a5, a6, a7, a8, a9⟩⟩
def ekSz : Ek → Nat
  | .e3 => 1
  | .e5 => 1
  | .e25 => 1
  | .e34 => 1
  | .e69 => 3
  | .e73 => 2
  | .other => 1
def ekZ : ∀ e, EkT e
  | .e3 => (0 : Int)
  | .e5 => (0 : Int)
  | .e25 => (0 : Int)
  | .e34 => ([] : List Int)
  | .e69 => (ConnectSpan.zero : ConnectSpan)
  | .e73 => (Field.zero : Field)
  | .other => ()
def ekCells : ∀ e, EkT e → List (AV El)
  | .e3, x => [.v (.int .i64 x)]
  | .e5, x => [.v (.int .u8 x)]
  | .e25, x => [.v (.int .u64 x)]
  | .e34, x => [.sl 5 (x : List (El 5)) false]
  | .e69, x => ConnectSpan.cells x
  | .e73, x => Field.cells x
  | .other, _ => [.v (.bool false)]
def ekDec : ∀ e, List (AV El) → Option (EkT e)
  | .e3, cs => popI .i64 cs fun a0 c0 => popE c0 a0
  | .e5, cs => popI .u8 cs fun a0 c0 => popE c0 a0
  | .e25, cs => popI .u64 cs fun a0 c0 => popE c0 a0
  | .e34, cs => popS 5 cs fun a0 c0 => popE c0 a0
  | .e69, cs => ConnectSpan.dec cs
  | .e73, cs => Field.dec cs
  | .other, _ => none
def ekBytes : ∀ e, Option (ByteArray → List (EkT e))
  | .e5 => some bytesI
  | _ => none
def ekInts : ∀ e, Option (List (EkT e) → List Int)
  | .e5 => some id
  | _ => none
@[reducible] def globs : Nat → AV El := fun _ => .any
theorem globs_lt : ∀ g, lt2 0 (globs g) = true := fun _ => rfl
def S : Sig := { El := El, dflt := fun t => ekZ (ek t), sz := fun t => ekSz (ek t), cell := fun t x => ekCells (ek t) x, dec := fun t cs => ekDec (ek t) cs, glob := globs, ofBytes := fun t => ekBytes (ek t), toInts := fun t => ekInts (ek t) }
theorem Update.dec_ok : ∀ cs x, Update.dec cs = some x → Imp (S := S) cs (Update.cells x) := by
  intro cs x h
  unfold Update.dec at h
  obtain ⟨a0, c0, rfl, h0⟩ := popI_some (S := S) h
  obtain ⟨a1, c1, rfl, h1⟩ := popI_some (S := S) h0
  obtain ⟨a2, c2, rfl, h2⟩ := popI_some (S := S) h1
  obtain ⟨a3, c3, rfl, h3⟩ := popI_some (S := S) h2
  obtain ⟨a4, c4, rfl, h4⟩ := popI_some (S := S) h3
  obtain ⟨rfl, rfl⟩ := popE_some (S := S) h4
  exact (.cons (.cons (.cons (.cons (.cons (.refl _))))))

theorem ConnParams.dec_ok : ∀ cs x, ConnParams.dec cs = some x → Imp (S := S) cs (ConnParams.cells x) := by
  intro cs x h
  unfold ConnParams.dec at h
  obtain ⟨a0, c0, rfl, h0⟩ := popI_some (S := S) h
  obtain ⟨a1, c1, rfl, h1⟩ := popI_some (S := S) h0
  obtain ⟨a2, c2, rfl, h2⟩ := popI_some (S := S) h1
  obtain ⟨a3, c3, rfl, h3⟩ := popI_some (S := S) h2
  obtain ⟨a4, c4, rfl, h4⟩ := popI_some (S := S) h3
  obtain ⟨a5, c5, rfl, h5⟩ := popI_some (S := S) h4
  obtain ⟨a6, c6, rfl, h6⟩ := popI_some (S := S) h5
  obtain ⟨a7, c7, rfl, h7⟩ := popI_some (S := S) h6
  obtain ⟨a8, c8, rfl, h8⟩ := popI_some (S := S) h7
  obtain ⟨a9, c9, rfl, h9⟩ := popI_some (S := S) h8
  obtain ⟨a10, c10, rfl, h10⟩ := popI_some (S := S) h9
  obtain ⟨rfl, rfl⟩ := popE_some (S := S) h10
  exact (.cons (.cons (.cons (.cons (.cons (.cons (.cons (.cons (.cons (.cons (.cons (.refl _))))))))))))

theorem Window.dec_ok : ∀ cs x, Window.dec cs = some x → Imp (S := S) cs (Window.cells x) := by
  intro cs x h
  unfold Window.dec at h
  obtain ⟨a0, c0, rfl, h0⟩ := popI_some (S := S) h
  obtain ⟨a1, c1, rfl, h1⟩ := popI_some (S := S) h0
  obtain ⟨rfl, rfl⟩ := popE_some (S := S) h1
  exact (.cons (.cons (.refl _)))

theorem Law17Wait.dec_ok : ∀ cs x, Law17Wait.dec cs = some x → Imp (S := S) cs (Law17Wait.cells x) := by
  intro cs x h
  unfold Law17Wait.dec at h
  obtain ⟨a0, c0, rfl, h0⟩ := popI_some (S := S) h
  obtain ⟨a1, c1, rfl, h1⟩ := popI_some (S := S) h0
  obtain ⟨a2, c2, rfl, h2⟩ := popI_some (S := S) h1
  obtain ⟨rfl, rfl⟩ := popE_some (S := S) h2
  exact (.cons (.cons (.cons (.refl _))))

theorem Clock.dec_ok : ∀ cs x, Clock.dec cs = some x → Imp (S := S) cs (Clock.cells x) := by
  intro cs x h
  unfold Clock.dec at h
  obtain ⟨a0, c0, rfl, h0⟩ := popI_some (S := S) h
  obtain ⟨a1, c1, rfl, h1⟩ := popI_some (S := S) h0
  obtain ⟨rfl, rfl⟩ := popE_some (S := S) h1
  exact (.cons (.cons (.refl _)))

theorem Law17Two.dec_ok : ∀ cs x, Law17Two.dec cs = some x → Imp (S := S) cs (Law17Two.cells x) := by
  intro cs x h
  unfold Law17Two.dec at h
  obtain ⟨a0, c0, rfl, h0⟩ := popI_some (S := S) h
  obtain ⟨a1, c1, rfl, h1⟩ := popI_some (S := S) h0
  obtain ⟨a2, c2, rfl, h2⟩ := popI_some (S := S) h1
  obtain ⟨a3, c3, rfl, h3⟩ := popI_some (S := S) h2
  obtain ⟨rfl, rfl⟩ := popE_some (S := S) h3
  exact (.cons (.cons (.cons (.cons (.refl _)))))

theorem Law17Beat.dec_ok : ∀ cs x, Law17Beat.dec cs = some x → Imp (S := S) cs (Law17Beat.cells x) := by
  intro cs x h
  unfold Law17Beat.dec at h
  obtain ⟨a0, c0, rfl, h0⟩ := popI_some (S := S) h
  obtain ⟨a1, c1, rfl, h1⟩ := popI_some (S := S) h0
  obtain ⟨a2, c2, rfl, h2⟩ := popI_some (S := S) h1
  obtain ⟨a3, c3, rfl, h3⟩ := popI_some (S := S) h2
  obtain ⟨rfl, rfl⟩ := popE_some (S := S) h3
  exact (.cons (.cons (.cons (.cons (.refl _)))))

theorem ConnectSpan.dec_ok : ∀ cs x, ConnectSpan.dec cs = some x → Imp (S := S) cs (ConnectSpan.cells x) := by
  intro cs x h
  unfold ConnectSpan.dec at h
  obtain ⟨a0, c0, rfl, h0⟩ := popI_some (S := S) h
  obtain ⟨a1, c1, rfl, h1⟩ := popI_some (S := S) h0
  obtain ⟨a2, c2, rfl, h2⟩ := popI_some (S := S) h1
  obtain ⟨rfl, rfl⟩ := popE_some (S := S) h2
  exact (.cons (.cons (.cons (.refl _))))

theorem Field.dec_ok : ∀ cs x, Field.dec cs = some x → Imp (S := S) cs (Field.cells x) := by
  intro cs x h
  unfold Field.dec at h
  obtain ⟨a0, c0, rfl, h0⟩ := popI_some (S := S) h
  obtain ⟨a1, c1, rfl, h1⟩ := popI_some (S := S) h0
  obtain ⟨rfl, rfl⟩ := popE_some (S := S) h1
  exact (.cons (.cons (.refl _)))

theorem Arr63.dec_ok : ∀ cs x, Arr63.dec cs = some x → Imp (S := S) cs (Arr63.cells x) := by
  intro cs x h
  unfold Arr63.dec at h
  obtain ⟨a0, c0, rfl, h0⟩ := popI_some (S := S) h
  obtain ⟨a1, c1, rfl, h1⟩ := popI_some (S := S) h0
  obtain ⟨a2, c2, rfl, h2⟩ := popI_some (S := S) h1
  obtain ⟨a3, c3, rfl, h3⟩ := popI_some (S := S) h2
  obtain ⟨a4, c4, rfl, h4⟩ := popI_some (S := S) h3
  obtain ⟨a5, c5, rfl, h5⟩ := popI_some (S := S) h4
  obtain ⟨a6, c6, rfl, h6⟩ := popI_some (S := S) h5
  obtain ⟨a7, c7, rfl, h7⟩ := popI_some (S := S) h6
  obtain ⟨a8, c8, rfl, h8⟩ := popI_some (S := S) h7
  obtain ⟨a9, c9, rfl, h9⟩ := popI_some (S := S) h8
  obtain ⟨rfl, rfl⟩ := popE_some (S := S) h9
  exact (.cons (.cons (.cons (.cons (.cons (.cons (.cons (.cons (.cons (.cons (.refl _)))))))))))

theorem ek_len : ∀ e (x : EkT e), (ekCells e x).length = ekSz e := by intro e x; cases e <;> rfl
theorem ek_pos : ∀ e, 0 < ekSz e := by intro e; cases e <;> decide
theorem ek_flat : ∀ e (x : EkT e) c, c ∈ ekCells e x → lt0 0 c = true ∧ one c = true := by
  intro e x c hc
  have : (ekCells e x).all (fun c => lt0 0 c && one c) = true := by cases e <;> rfl
  have := List.all_eq_true.1 this c hc
  simpa using this
theorem ek_dec : ∀ e cs (x : EkT e), ekDec e cs = some x → Imp (S := S) cs (ekCells e x) := by
  intro e cs x h
  cases e with
  | e3 =>
    obtain ⟨a0, c0, rfl, h0⟩ := popI_some (S := S) h
    obtain ⟨rfl, rfl⟩ := popE_some (S := S) h0
    exact .refl _
  | e5 =>
    obtain ⟨a0, c0, rfl, h0⟩ := popI_some (S := S) h
    obtain ⟨rfl, rfl⟩ := popE_some (S := S) h0
    exact .refl _
  | e25 =>
    obtain ⟨a0, c0, rfl, h0⟩ := popI_some (S := S) h
    obtain ⟨rfl, rfl⟩ := popE_some (S := S) h0
    exact .refl _
  | e34 =>
    have h : popS (El := El) 5 cs (fun a0 c0 => popE c0 a0) = some x := h
    obtain ⟨a0, c0, h0, k0⟩ := popS_some (S := S) (t := 5) h
    obtain ⟨rfl, rfl⟩ := popE_some (S := S) h0
    exact k0 _ (.refl _)
  | e69 => exact ConnectSpan.dec_ok cs x h
  | e73 => exact Field.dec_ok cs x h
  | other => cases h
theorem bytesI_len (s : ByteArray) : (bytesI s).length = s.size := by simp [bytesI]
theorem ek_bytes : ∀ e f, ekBytes e = some f → ekSz e = 1 ∧ ∀ s : ByteArray, (f s).length = s.size ∧ ∀ i, i < s.size → ekCells e ((f s).getD i (ekZ e)) = [.v (.int .u8 ((bytesI s).getD i 0))] := by
  intro e f h
  cases e <;> simp only [ekBytes, reduceCtorEq, Option.some.injEq] at h
  all_goals
    subst h
    exact ⟨rfl, fun s => ⟨bytesI_len s, fun i hi => rfl⟩⟩
theorem ek_ints : ∀ e f, ekInts e = some f → ekSz e = 1 ∧ ∀ xs : List (EkT e), (f xs).length = xs.length ∧ ∀ i, i < xs.length → ekCells e (xs.getD i (ekZ e)) = [.v (.int .u8 ((f xs).getD i 0))] := by
  intro e f h
  cases e <;> simp only [ekInts, reduceCtorEq, Option.some.injEq] at h
  all_goals
    subst h
    exact ⟨rfl, fun xs => ⟨rfl, fun i hi => rfl⟩⟩
theorem sigOk : SigOk S := ⟨fun t x => ek_len _ x, fun t => ek_pos _, fun t x c hc => ek_flat _ x c hc, globs_lt, fun t cs x h => ek_dec _ cs x h, fun t f h => ek_ints _ f h, fun t f h => ek_bytes _ f h⟩
theorem mixed : Try.prog.follows .mixedOrders = true := by kernel_rfl
def tab0 : List (FuncId × Ct El) := []
theorem tab0_ok : TabOk Try.prog S tab0 := trivial
end Go.Aw.W
