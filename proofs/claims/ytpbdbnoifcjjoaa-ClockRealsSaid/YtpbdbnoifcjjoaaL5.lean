/- The first time at which any clock shows at least any local time is that of the document. Proved for every input, out of the reckoning of the law's function and of all that it calls; no conditions. -/
import Derived.Test.YtpbdbnoifcjjoaaC7
namespace Go.Proofs.Ytpbdbnoifcjjoaa.clockReals
open Go.ChangeShapes Go.WideShapes Go.ChangeAt Go.RowKit Go.Aw Go.Aw.Clock
set_option linter.unusedVariables false

theorem own : ownKnob Try.prog.godebug = none := by kernel_rfl

theorem law (a0 b0 a1 : Int) : evFun C5 3 5 [ck a0 b0, i a1] [] (fun r _ => r = .v (.bool true)) := by
  have : evFun C5 3 5 [ck a0 b0, i a1] [] (fun r _ => r = .v (.bool true)) = also [a3, a3, a3, a3, a3, a3, a2] (AV.v (El := ElC) (Value.bool (bif true then realF a0 b0 a1 == realF a0 b0 a1 else false)) = .v (.bool true)) := by kernel_rfl
  exact this.mpr (also_of (by simp [a3, a2]) (by simp))

theorem walk (a0 b0 a1 : Int) (w : World) :
    Calls Try.prog 5 #[.agg #[.int .i64 a0, .int .i64 b0], .int .i64 a1] w fun e w' => e = .returned (.bool true) ∧ Below w.heap.size w w' :=
  law_of_fun ok5 3 (args := [ck a0 b0, i a1]) (law a0 b0 a1) (vals := [.agg #[.int .i64 a0, .int .i64 b0], .int .i64 a1]) (.cons (agg2 _ _) (.cons (Γ.v _) .nil)) (fun g => glob_any)

set_option maxRecDepth 100000 in
theorem lifted (os : Os) (started : os.Started) (H : Type) (enc : TypeId × Value → H) :
    ReturnsInHanded {} Try.checked os 5 .any (Rows.clockRealsSpec.pre6 enc Try.prog Try.f5 Rows.clockRealsRow.domain false) (Rows.clockRealsSpec.post enc Try.prog Try.f5 false true false false) := by
  refine returnsInHanded_of_change (C := Try.checked) own started (by kernel_rfl) Try.func5
    (ChangeSpec.witness6 (enc := enc) (C := Try.checked) false ⟨#[], #[.agg #[.int .i64 0, .int .i64 0], .int .i64 0], []⟩ 8 (by kernel_rfl) (by kernel_rfl) (by kernel_rfl) (by kernel_rfl)) ?_
  intro W base args ds gs before hval0 hW hcnd _
  have hval : ∀ (j : Nat) t v, Try.f5.params[j]? = some t → args[j]? = some v → Value.okWide Try.prog W .any base t v := hval0
  have hW' := hW
  obtain ⟨p, q, hA0, hV, rfl, hfz, hnd⟩ := hW
  obtain ⟨rfl, rfl⟩ := trodVars_none hV
  rw [List.append_nil] at hW'
  have hA : DataW.TrodAll enc Try.prog W 0 (fun _ => true) true Try.f5.params.toList args.toList ds p := hA0
  have hend : ∀ W', Below W.heap.size W W' → Rows.clockRealsSpec.fn H (ds ++ []) = { results := [.lit (.bool true)], args := ds } → Rows.clockRealsSpec.post enc Try.prog Try.f5 false true false false W args (.bool true) W' := fun W' hb hfn =>
    post_true (tb := 4) (by kernel_rfl) hW' rfl hA (by decide +kernel) rfl Try.underlying4 hfn hb
  rw [Try.params5] at hA hval
  obtain ⟨v0, vs0, d0, ds0, p0, q0, hargs, rfl, rfl, h0, r0⟩ := trodAll_cons hA
  obtain ⟨v1, vs1, d1, ds1, p1, q1, rfl, rfl, rfl, h1, r1⟩ := trodAll_cons r0
  obtain ⟨rfl, rfl, rfl⟩ := trodAll_nil r1
  obtain rfl : args = #[v0, v1] := by cases args; simp_all
  obtain ⟨a0, b0, rfl, ha0, hb0⟩ := open_int2 (u0 := 3) (u1 := 3) (by kernel_rfl) (by kernel_rfl) (by kernel_rfl) Try.underlying3 Try.underlying3 (hval 0 23 v0 rfl rfl)
  obtain ⟨a1, rfl⟩ := okWide_int Try.underlying3 (hval 1 3 v1 rfl rfl)
  refine (walk a0 b0 a1 W).mono fun e W' ⟨he, hb⟩ => ?_
  subst he
  exact ⟨_, rfl, hend W' hb rfl⟩

theorem over : Rows.clockRealsRow.holds Try.pinned (OpenSpec.ofChange Rows.clockRealsSpec) :=
  OpenClaim.holds_of_wide 5 Try.f5 rfl rfl rfl rfl rfl rfl rfl ⟨rfl, rfl, rfl, rfl, rfl⟩ rfl rfl rfl rfl rfl (by kernel_rfl) Try.func5 (by kernel_rfl)
    (of_decide_eq_true (by kernel_rfl)) (by unfold Func.isWrapper; first | (rw [if_pos (by decide +kernel)]; kernel_rfl) | (rw [if_neg (by decide +kernel)]; exact ⟨rfl, rfl⟩))
    (fun os started H enc _ => lifted os started H enc)

/-- The statement. -/
theorem proved : Rows.ClockRealsSaid :=
  over
#print axioms proved
end Go.Proofs.Ytpbdbnoifcjjoaa.clockReals
