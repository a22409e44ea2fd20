/- The data of the seat, typed: structs, the elements of slices, how they lie in cells (printed by gen_sig.py). -/
import Derived.Test.YtaoadiciclopbaaDoorRows
import Derived.Test.YtaoadiciclopbaaDoorAwB
import Derived.Test.YtaoadiciclopbaaDoorAwU
set_option linter.unusedVariables false
namespace Go.Aw.W
open Go Go.Aw Go.Proofs
structure Address where
  Kind : Int
  Bits : Int
@[reducible] def Address.zero : Address := ⟨0, 0⟩
structure Identity where
  Address : Address
  IRK : Int
@[reducible] def Identity.zero : Identity := ⟨Address.zero, 0⟩
structure Field where
  Size : Int
  Value : Int
@[reducible] def Field.zero : Field := ⟨0, 0⟩
/-- What lies in slices. -/
inductive Ek where
  | e5
  | e22
  | e38
  | e58
  | e68
  | other
@[reducible] def EkT : Ek → Type
  | .e5 => Int
  | .e22 => Int
  | .e38 => Identity
  | .e58 => List Int
  | .e68 => Field
  | .other => Unit
@[reducible] def ek : TypeId → Ek
  | 5 => .e5
  | 22 => .e22
  | 38 => .e38
  | 58 => .e58
  | 68 => .e68
  | _ => .other
@[reducible] def El (t : TypeId) : Type := EkT (ek t)
def Address.cells (x : Address) : List (AV El) := [.v (.int .i64 x.Kind), .v (.int .u64 x.Bits)]
def Address.av (x : Address) : AV El := .agg x.cells
def Address.dec (cs : List (AV El)) : Option Address := popI .i64 cs fun a0 c0 => popI .u64 c0 fun a1 c1 => popE c1 ⟨a0, a1⟩
def Identity.cells (x : Identity) : List (AV El) := [.v (.int .i64 x.Address.Kind), .v (.int .u64 x.Address.Bits), .v (.int .u64 x.IRK)]
def Identity.av (x : Identity) : AV El := .agg x.cells
def Identity.dec (cs : List (AV El)) : Option Identity := popI .i64 cs fun a0 c0 => popI .u64 c0 fun a1 c1 => popI .u64 c1 fun a2 c2 => popE c2 ⟨⟨a0, a1⟩, a2⟩
def Field.cells (x : Field) : List (AV El) := [.v (.int .i64 x.Size), .v (.int .u64 x.Value)]
def Field.av (x : Field) : AV El := .agg x.cells
def Field.dec (cs : List (AV El)) : Option Field := popI .i64 cs fun a0 c0 => popI .u64 c0 fun a1 c1 => popE c1 ⟨a0, a1⟩
def ekSz : Ek → Nat
  | .e5 => 1
  | .e22 => 1
  | .e38 => 3
  | .e58 => 1
  | .e68 => 2
  | .other => 1
def ekZ : ∀ e, EkT e
  | .e5 => (0 : Int)
  | .e22 => (0 : Int)
  | .e38 => (Identity.zero : Identity)
  | .e58 => ([] : List Int)
  | .e68 => (Field.zero : Field)
  | .other => ()
def ekCells : ∀ e, EkT e → List (AV El)
  | .e5, x => [.v (.int .u8 x)]
  | .e22, x => [.v (.int .u64 x)]
  | .e38, x => Identity.cells x
  | .e58, x => [.sl 5 (x : List (El 5)) false]
  | .e68, x => Field.cells x
  | .other, _ => [.v (.bool false)]
def ekDec : ∀ e, List (AV El) → Option (EkT e)
  | .e5, cs => popI .u8 cs fun a0 c0 => popE c0 a0
  | .e22, cs => popI .u64 cs fun a0 c0 => popE c0 a0
  | .e38, cs => Identity.dec cs
  | .e58, cs => popS 5 cs fun a0 c0 => popE c0 a0
  | .e68, cs => Field.dec cs
  | .other, _ => none
def ekBytes : ∀ e, Option (ByteArray → List (EkT e))
  | .e5 => some bytesI
  | _ => none
def ekInts : ∀ e, Option (List (EkT e) → List Int)
  | .e5 => some id
  | _ => none
@[reducible] def prefixes : List (El 22) := ([0, 0, 3, 1, 0] : List Int)
@[reducible] def globs : Nat → AV El := fun g => bif Nat.beq g 0 then .ra 22 prefixes else .any
theorem globs_lt : ∀ g, lt2 0 (globs g) = true := by intro g; unfold globs; cases Nat.beq g 0 <;> rfl
def S : Sig := { El := El, dflt := fun t => ekZ (ek t), sz := fun t => ekSz (ek t), cell := fun t x => ekCells (ek t) x, dec := fun t cs => ekDec (ek t) cs, glob := globs, ofBytes := fun t => ekBytes (ek t), toInts := fun t => ekInts (ek t) }
theorem Address.dec_ok : ∀ cs x, Address.dec cs = some x → Imp (S := S) cs (Address.cells x) := by
  intro cs x h
  unfold Address.dec at h
  obtain ⟨a0, c0, rfl, h0⟩ := popI_some (S := S) h
  obtain ⟨a1, c1, rfl, h1⟩ := popI_some (S := S) h0
  obtain ⟨rfl, rfl⟩ := popE_some (S := S) h1
  exact (.cons (.cons (.refl _)))

theorem Identity.dec_ok : ∀ cs x, Identity.dec cs = some x → Imp (S := S) cs (Identity.cells x) := by
  intro cs x h
  unfold Identity.dec at h
  obtain ⟨a0, c0, rfl, h0⟩ := popI_some (S := S) h
  obtain ⟨a1, c1, rfl, h1⟩ := popI_some (S := S) h0
  obtain ⟨a2, c2, rfl, h2⟩ := popI_some (S := S) h1
  obtain ⟨rfl, rfl⟩ := popE_some (S := S) h2
  exact (.cons (.cons (.cons (.refl _))))

theorem Field.dec_ok : ∀ cs x, Field.dec cs = some x → Imp (S := S) cs (Field.cells x) := by
  intro cs x h
  unfold Field.dec at h
  obtain ⟨a0, c0, rfl, h0⟩ := popI_some (S := S) h
  obtain ⟨a1, c1, rfl, h1⟩ := popI_some (S := S) h0
  obtain ⟨rfl, rfl⟩ := popE_some (S := S) h1
  exact (.cons (.cons (.refl _)))

theorem ek_len : ∀ e (x : EkT e), (ekCells e x).length = ekSz e := by intro e x; cases e <;> rfl
theorem ek_pos : ∀ e, 0 < ekSz e := by intro e; cases e <;> decide
theorem ek_flat : ∀ e (x : EkT e) c, c ∈ ekCells e x → lt0 0 c = true ∧ one c = true := by
  intro e x c hc
  have : (ekCells e x).all (fun c => lt0 0 c && one c) = true := by cases e <;> rfl
  have := List.all_eq_true.1 this c hc
  simpa using this
theorem ek_dec : ∀ e cs (x : EkT e), ekDec e cs = some x → Imp (S := S) cs (ekCells e x) := by
  intro e cs x h
  cases e with
  | e5 =>
    obtain ⟨a0, c0, rfl, h0⟩ := popI_some (S := S) h
    obtain ⟨rfl, rfl⟩ := popE_some (S := S) h0
    exact .refl _
  | e22 =>
    obtain ⟨a0, c0, rfl, h0⟩ := popI_some (S := S) h
    obtain ⟨rfl, rfl⟩ := popE_some (S := S) h0
    exact .refl _
  | e38 => exact Identity.dec_ok cs x h
  | e58 =>
    have h : popS (El := El) 5 cs (fun a0 c0 => popE c0 a0) = some x := h
    obtain ⟨a0, c0, h0, k0⟩ := popS_some (S := S) (t := 5) h
    obtain ⟨rfl, rfl⟩ := popE_some (S := S) h0
    exact k0 _ (.refl _)
  | e68 => exact Field.dec_ok cs x h
  | other => cases h
theorem bytesI_len (s : ByteArray) : (bytesI s).length = s.size := by simp [bytesI]
theorem ek_bytes : ∀ e f, ekBytes e = some f → ekSz e = 1 ∧ ∀ s : ByteArray, (f s).length = s.size ∧ ∀ i, i < s.size → ekCells e ((f s).getD i (ekZ e)) = [.v (.int .u8 ((bytesI s).getD i 0))] := by
  intro e f h
  cases e <;> simp only [ekBytes, reduceCtorEq, Option.some.injEq] at h
  all_goals
    subst h
    exact ⟨rfl, fun s => ⟨bytesI_len s, fun i hi => rfl⟩⟩
theorem ek_ints : ∀ e f, ekInts e = some f → ekSz e = 1 ∧ ∀ xs : List (EkT e), (f xs).length = xs.length ∧ ∀ i, i < xs.length → ekCells e (xs.getD i (ekZ e)) = [.v (.int .u8 ((f xs).getD i 0))] := by
  intro e f h
  cases e <;> simp only [ekInts, reduceCtorEq, Option.some.injEq] at h
  all_goals
    subst h
    exact ⟨rfl, fun xs => ⟨rfl, fun i hi => rfl⟩⟩
theorem sigOk : SigOk S := ⟨fun t x => ek_len _ x, fun t => ek_pos _, fun t x c hc => ek_flat _ x c hc, globs_lt, fun t cs x h => ek_dec _ cs x h, fun t f h => ek_ints _ f h, fun t f h => ek_bytes _ f h⟩
theorem mixed : Tryd.prog.follows .mixedOrders = true := by kernel_rfl
def tab0 : List (FuncId × Ct El) := []
theorem tab0_ok : TabOk Tryd.prog S tab0 := trivial
end Go.Aw.W
