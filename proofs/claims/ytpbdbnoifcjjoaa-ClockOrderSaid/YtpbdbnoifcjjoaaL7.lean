/- A clock never runs backwards, and advances by at most 2 in a microsecond. Proved for every input, out of the reckoning of the law's function and of all that it calls; no conditions. -/
import Derived.Test.YtpbdbnoifcjjoaaC8
namespace Go.Proofs.Ytpbdbnoifcjjoaa.clockOrder
open Go.ChangeShapes Go.WideShapes Go.ChangeAt Go.RowKit Go.Aw Go.Aw.Clock
set_option linter.unusedVariables false

theorem own : ownKnob Try.prog.godebug = none := by kernel_rfl

abbrev R (b : Bool) : Prop := AV.v (El := ElC) (Value.bool b) = .v (.bool true)
def x (t : Int) : Bool := decide (t < 0)
def y (t : Int) : Bool := bif decide (t < 0) then true else decide (1099511627776 ≤ t)
def z (t u : Int) : Bool := bif bif decide (t < 0) then true else decide (1099511627776 ≤ t) then true else decide (u < t)
def t1 (t : Int) : Int := IntKind.i64.wrap (t + 1)
def c (p s t : Int) : Bool := decide (localF p s t ≤ localF p s (t1 t))
def d (p s t : Int) : Bool := bif c p s t then decide (localF p s (t1 t) ≤ IntKind.i64.wrap (localF p s t + 2)) else false
def e (p s t u : Int) : Bool := bif d p s t then decide (localF p s t ≤ localF p s u) else false
theorem law (p s t u : Int) : evFun C5 3 7 [ck p s, i t, i u] [] (fun r _ => r = .v (.bool true)) := by
  have : evFun C5 3 7 [ck p s, i t, i u] [] (fun r _ => r = .v (.bool true)) = (((!true) = true → R false) ∧ ((!true) = false → also [o3 (!x t), on (x t), o3 (!y t), o3 (!y t), on (y t)] ((z t u = true → R true) ∧ (z t u = false →
    also [o3 (c p s t), o3 (c p s t), o3 (c p s t), o2 (c p s t), o3 (d p s t), o3 (d p s t), o3 (d p s t), o3 (d p s t), o2 (d p s t)] (R (e p s t u)))))) := by kernel_rfl
  refine this.mpr ⟨(fun h => by cases h), fun _ => also_of (by simp [o3, on]) ⟨fun _ => rfl, fun h => also_of (by simp [o3, o2]) ?_⟩⟩
  by_cases h1 : t < 0
  · simp [z, h1] at h
  by_cases h2 : 1099511627776 ≤ t
  · simp [z, h1, h2] at h
  by_cases h3 : u < t
  · simp [z, h1, h2, h3] at h
  have hw : t1 t = t + 1 := wi64 _ (by omega) (by omega)
  have hb := local_bound p s t
  have e1 : c p s t = true := by unfold c; rw [hw]; exact decide_eq_true (local_mono p s (by omega))
  have e2 : d p s t = true := by unfold d; rw [e1, hw, wi64 _ (by omega) (by omega)]; exact decide_eq_true (local_step p s (by omega) (by omega))
  have e3 : e p s t u = true := by unfold e; rw [e2]; exact decide_eq_true (local_mono p s (by omega))
  rw [e3]

theorem walk (a0 b0 a1 a2 : Int) (w : World) :
    Calls Try.prog 7 #[.agg #[.int .i64 a0, .int .i64 b0], .int .i64 a1, .int .i64 a2] w fun e w' => e = .returned (.bool true) ∧ Below w.heap.size w w' :=
  law_of_fun ok5 3 (args := [ck a0 b0, i a1, i a2]) (law a0 b0 a1 a2) (vals := [.agg #[.int .i64 a0, .int .i64 b0], .int .i64 a1, .int .i64 a2]) (.cons (agg2 _ _) (.cons (Γ.v _) (.cons (Γ.v _) .nil))) (fun g => glob_any)

set_option maxRecDepth 100000 in
theorem lifted (os : Os) (started : os.Started) (H : Type) (enc : TypeId × Value → H) :
    ReturnsInHanded {} Try.checked os 7 .any (Rows.clockOrderSpec.pre6 enc Try.prog Try.f7 Rows.clockOrderRow.domain false) (Rows.clockOrderSpec.post enc Try.prog Try.f7 false true false false) := by
  refine returnsInHanded_of_change (C := Try.checked) own started (by kernel_rfl) Try.func7
    (ChangeSpec.witness6 (enc := enc) (C := Try.checked) false ⟨#[], #[.agg #[.int .i64 0, .int .i64 0], .int .i64 0, .int .i64 0], []⟩ 8 (by kernel_rfl) (by kernel_rfl) (by kernel_rfl) (by kernel_rfl)) ?_
  intro W base args ds gs before hval0 hW hcnd _
  have hval : ∀ (j : Nat) t v, Try.f7.params[j]? = some t → args[j]? = some v → Value.okWide Try.prog W .any base t v := hval0
  have hW' := hW
  obtain ⟨p, q, hA0, hV, rfl, hfz, hnd⟩ := hW
  obtain ⟨rfl, rfl⟩ := trodVars_none hV
  rw [List.append_nil] at hW'
  have hA : DataW.TrodAll enc Try.prog W 0 (fun _ => true) true Try.f7.params.toList args.toList ds p := hA0
  have hend : ∀ W', Below W.heap.size W W' → Rows.clockOrderSpec.fn H (ds ++ []) = { results := [.lit (.bool true)], args := ds } → Rows.clockOrderSpec.post enc Try.prog Try.f7 false true false false W args (.bool true) W' := fun W' hb hfn =>
    post_true (tb := 4) (by kernel_rfl) hW' rfl hA (by decide +kernel) rfl Try.underlying4 hfn hb
  rw [Try.params7] at hA hval
  obtain ⟨v0, vs0, d0, ds0, p0, q0, hargs, rfl, rfl, h0, r0⟩ := trodAll_cons hA
  obtain ⟨v1, vs1, d1, ds1, p1, q1, rfl, rfl, rfl, h1, r1⟩ := trodAll_cons r0
  obtain ⟨v2, vs2, d2, ds2, p2, q2, rfl, rfl, rfl, h2, r2⟩ := trodAll_cons r1
  obtain ⟨rfl, rfl, rfl⟩ := trodAll_nil r2
  obtain rfl : args = #[v0, v1, v2] := by cases args; simp_all
  obtain ⟨a0, b0, rfl, ha0, hb0⟩ := open_int2 (u0 := 3) (u1 := 3) (by kernel_rfl) (by kernel_rfl) (by kernel_rfl) Try.underlying3 Try.underlying3 (hval 0 23 v0 rfl rfl)
  obtain ⟨a1, rfl⟩ := okWide_int Try.underlying3 (hval 1 3 v1 rfl rfl)
  obtain ⟨a2, rfl⟩ := okWide_int Try.underlying3 (hval 2 3 v2 rfl rfl)
  refine (walk a0 b0 a1 a2 W).mono fun e W' ⟨he, hb⟩ => ?_
  subst he
  exact ⟨_, rfl, hend W' hb rfl⟩

theorem over : Rows.clockOrderRow.holds Try.pinned (OpenSpec.ofChange Rows.clockOrderSpec) :=
  OpenClaim.holds_of_wide 7 Try.f7 rfl rfl rfl rfl rfl rfl rfl ⟨rfl, rfl, rfl, rfl, rfl⟩ rfl rfl rfl rfl rfl (by kernel_rfl) Try.func7 (by kernel_rfl)
    (of_decide_eq_true (by kernel_rfl)) (by unfold Func.isWrapper; first | (rw [if_pos (by decide +kernel)]; kernel_rfl) | (rw [if_neg (by decide +kernel)]; exact ⟨rfl, rfl⟩))
    (fun os started H enc _ => lifted os started H enc)

/-- The statement. -/
theorem proved : Rows.ClockOrderSaid :=
  over
#print axioms proved
end Go.Proofs.Ytpbdbnoifcjjoaa.clockOrder
