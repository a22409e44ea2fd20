/- The window of any event after any anchor point is that of the document. Proved for every input; no conditions. -/
import Derived.Test.YtkngobfkfleacaaP4
set_option linter.unusedVariables false
namespace Go.Proofs.Ytkngobfkfleacaa.connectExpects
open Go Go.ChangeShapes Go.WideShapes Go.ChangeAt Go.RowKit Go.Aw Go.Aw.W
theorem own : ownKnob Try.prog.godebug = none := by kernel_rfl
theorem glob_any {env : Env} {w : World} {g : Nat} : Γ S env w (S.glob g) (.pointer (some ⟨g, 0, none⟩)) := Γ.any _

/-- The walk. -/
theorem walk {v0 : Value} {v1 : Value} (x0 : Update) (x1 : Law17Wait) (b0 : Update.has x0) (b1 : Law17Wait.has x1) (w : World) (g0 : Γ S (env0 w) w (Update.av x0) v0) (g1 : Γ S (env0 w) w (Law17Wait.av x1) v1) : Calls Try.prog 6 #[v0, v1] w fun e w' => e = .returned (.bool true) ∧ Below w.heap.size w w' :=
  law_of connectExpects.ok (args := [Update.av x0, Law17Wait.av x1]) (vals := [v0, v1]) (x := (x0, x1)) (by kernel_rfl) (fun p hp => by cases hp) (congrArg (fun b => AV.v (Value.bool b)) (connectExpects_true x0 x1 b0 b1)) (by kernel_rfl) (.cons g0 (.cons g1 .nil)) (fun g => glob_any)

set_option maxRecDepth 100000 in
theorem lifted (os : Os) (started : os.Started) (H : Type) (enc : TypeId × Value → H) :
    ReturnsInHanded {} Try.checked os 6 .any (Rows.connectExpectsSpec.pre6 enc Try.prog Try.f6 Rows.connectExpectsRow.domain false) (Rows.connectExpectsSpec.post enc Try.prog Try.f6 false true false false) := by
  refine returnsInHanded_of_change_sized (C := Try.checked) own started (by kernel_rfl) Try.func6
    (ChangeSpec.witness6 (enc := enc) (C := Try.checked) false ⟨#[], #[.agg #[.int .i64 0, .int .i64 0, .int .i64 0, .int .i64 0, .int .i64 0], .agg #[.int .i64 0, .int .i64 0, .int .i64 0]], []⟩ 8 (by kernel_rfl) (by kernel_rfl) (by kernel_rfl) (by kernel_rfl)) ?_
  intro W base args ds gs before hval0 hW hcnd hsz _
  have hval : ∀ (j : Nat) t v, Try.f6.params[j]? = some t → args[j]? = some v → Value.okWide Try.prog W .any base t v := hval0
  have hW' := hW
  obtain ⟨p, q, hA0, hV, rfl, hfz, hnd⟩ := hW
  obtain ⟨rfl, rfl⟩ := trodVars_none hV
  rw [List.append_nil] at hW'
  have hA : DataW.TrodAll enc Try.prog W 0 (fun _ => true) true Try.f6.params.toList args.toList ds p := hA0
  have hend : ∀ W', Below W.heap.size W W' → Rows.connectExpectsSpec.fn H (ds ++ []) = { results := [.lit (.bool true)], args := ds } → Rows.connectExpectsSpec.post enc Try.prog Try.f6 false true false false W args (.bool true) W' := fun W' hb hfn =>
    post_true (tb := 4) (by kernel_rfl) hW' rfl hA (by decide +kernel) rfl Try.underlying4 hfn hb
  rw [Try.params6] at hA hval
  replace hsz : (DataW.weightsEach Try.prog (Try.f6.params.toList ++ Rows.connectExpectsSpec.plain.varTypes Try.prog) (ds ++ [])).all (· ≤ reachBytes) = true := hsz
  rw [Try.params6] at hsz
  obtain ⟨v0, vs0, d0, ds0, p0, q0, hargs, rfl, rfl, h0, r0⟩ := trodAll_cons hA
  obtain ⟨v1, vs1, d1, ds1, p1, q1, rfl, rfl, rfl, h1, r1⟩ := trodAll_cons r0
  obtain ⟨rfl, rfl, rfl⟩ := trodAll_nil r1
  obtain rfl : args = #[v0, v1] := by cases args; simp_all
  obtain ⟨x0, g0, b0⟩ := open_agg (S := S) (by kernel_rfl) (Update.opn) (hval 0 23 v0 rfl rfl) h0 (weights_arg hsz (j := 0) rfl rfl)
  obtain ⟨x1, g1, b1⟩ := open_agg (S := S) (by kernel_rfl) (Law17Wait.opn) (hval 1 48 v1 rfl rfl) h1 (weights_arg hsz (j := 1) rfl rfl)
  refine (walk x0 x1 b0 b1 W g0 g1).mono fun e W' ⟨he, hb⟩ => ?_
  subst he
  exact ⟨_, rfl, hend W' hb rfl⟩

theorem over : Rows.connectExpectsRow.holds Try.pinned (OpenSpec.ofChange Rows.connectExpectsSpec) :=
  OpenClaim.holds_of_wide 6 Try.f6 rfl rfl rfl rfl rfl rfl rfl ⟨rfl, rfl, rfl, rfl, rfl⟩ rfl rfl rfl rfl rfl (by kernel_rfl) Try.func6 (by kernel_rfl)
    (of_decide_eq_true (by kernel_rfl)) (by unfold Func.isWrapper; first | (rw [if_pos (by decide +kernel)]; kernel_rfl) | (rw [if_neg (by decide +kernel)]; exact ⟨rfl, rfl⟩))
    (fun os started H enc _ => lifted os started H enc)

/-- The statement. -/
theorem proved : Rows.ConnectExpectsSaid :=
  over
#print axioms proved
end Go.Proofs.Ytkngobfkfleacaa.connectExpects
