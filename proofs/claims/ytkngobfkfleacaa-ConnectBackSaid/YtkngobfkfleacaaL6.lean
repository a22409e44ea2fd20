/- Parameters are recovered from their bytes, and bytes that are accepted are those of the result. Proved for every input; no conditions. -/
import Derived.Test.YtkngobfkfleacaaP4
set_option linter.unusedVariables false
namespace Go.Proofs.Ytkngobfkfleacaa.connectBack
open Go Go.ChangeShapes Go.WideShapes Go.ChangeAt Go.RowKit Go.Aw Go.Aw.W
theorem own : ownKnob Try.prog.godebug = none := by kernel_rfl
theorem glob_any {env : Env} {w : World} {g : Nat} : Γ S env w (S.glob g) (.pointer (some ⟨g, 0, none⟩)) := Γ.any _

/-- The walk. -/
theorem walk {v0 : Value} {v1 : Value} (x0 : ConnParams) (x1 : List Int) (b0 : ConnParams.has x0) (b1 : (∀ y ∈ x1, IntKind.has .u8 y) ∧ x1.length * 1 ≤ 140737488351232) (w : World) (g0 : Γ S (env0 w) w (ConnParams.av x0) v0) (g1 : Γ S (env0 w) w (.sl 5 (x1 : List (El 5)) false) v1) : Calls Try.prog 8 #[v0, v1] w fun e w' => e = .returned (.bool true) ∧ Below w.heap.size w w' :=
  law_of connectBack.ok (args := [ConnParams.av x0, .sl 5 (x1 : List (El 5)) false]) (vals := [v0, v1]) (x := (x0, x1)) (by kernel_rfl) (fun p hp => by simp only [List.mem_singleton] at hp; subst hp; exact connectBack_pre x0 x1 b0 b1) (congrArg (fun b => AV.v (Value.bool b)) (connectBack_true x0 x1 b0 b1)) (by kernel_rfl) (.cons g0 (.cons g1 .nil)) (fun g => glob_any)

set_option maxRecDepth 100000 in
theorem lifted (os : Os) (started : os.Started) (H : Type) (enc : TypeId × Value → H) :
    ReturnsInHanded {} Try.checked os 8 .any (Rows.connectBackSpec.pre6 enc Try.prog Try.f8 Rows.connectBackRow.domain false) (Rows.connectBackSpec.post enc Try.prog Try.f8 false true false false) := by
  refine returnsInHanded_of_change_sized (C := Try.checked) own started (by kernel_rfl) Try.func8
    (ChangeSpec.witness6 (enc := enc) (C := Try.checked) false ⟨#[], #[.agg #[.int .u32 0, .int .u32 0, .int .i64 0, .int .i64 0, .int .i64 0, .int .i64 0, .int .i64 0, .int .u64 0, .int .i64 0, .int .i64 0, .int .i64 0], .slice none 0 0], []⟩ 8 (by kernel_rfl) (by kernel_rfl) (by kernel_rfl) (by kernel_rfl)) ?_
  intro W base args ds gs before hval0 hW hcnd hsz _
  have hval : ∀ (j : Nat) t v, Try.f8.params[j]? = some t → args[j]? = some v → Value.okWide Try.prog W .any base t v := hval0
  have hW' := hW
  obtain ⟨p, q, hA0, hV, rfl, hfz, hnd⟩ := hW
  obtain ⟨rfl, rfl⟩ := trodVars_none hV
  rw [List.append_nil] at hW'
  have hA : DataW.TrodAll enc Try.prog W 0 (fun _ => true) true Try.f8.params.toList args.toList ds p := hA0
  have hend : ∀ W', Below W.heap.size W W' → Rows.connectBackSpec.fn H (ds ++ []) = { results := [.lit (.bool true)], args := ds } → Rows.connectBackSpec.post enc Try.prog Try.f8 false true false false W args (.bool true) W' := fun W' hb hfn =>
    post_true (tb := 4) (by kernel_rfl) hW' rfl hA (by decide +kernel) rfl Try.underlying4 hfn hb
  rw [Try.params8] at hA hval
  replace hsz : (DataW.weightsEach Try.prog (Try.f8.params.toList ++ Rows.connectBackSpec.plain.varTypes Try.prog) (ds ++ [])).all (· ≤ reachBytes) = true := hsz
  rw [Try.params8] at hsz
  obtain ⟨v0, vs0, d0, ds0, p0, q0, hargs, rfl, rfl, h0, r0⟩ := trodAll_cons hA
  obtain ⟨v1, vs1, d1, ds1, p1, q1, rfl, rfl, rfl, h1, r1⟩ := trodAll_cons r0
  obtain ⟨rfl, rfl, rfl⟩ := trodAll_nil r1
  obtain rfl : args = #[v0, v1] := by cases args; simp_all
  obtain ⟨x0, g0, b0⟩ := open_agg (S := S) (by kernel_rfl) (ConnParams.opn) (hval 0 28 v0 rfl rfl) h0 (weights_arg hsz (j := 0) rfl rfl)
  obtain ⟨x1, g1, b1⟩ := open_flat (S := S) (by kernel_rfl) (opn_slice (S := S) (e := 5) Try.underlying34 (by kernel_rfl) (sigOk.pos _) (fun x => sigOk.len _ x) (nb := 1) (by kernel_rfl) (opn_int Try.underlying5)) (hval 1 34 v1 rfl rfl) h1 (weights_arg hsz (j := 1) rfl rfl)
  refine (walk x0 x1 b0 b1 W g0 g1).mono fun e W' ⟨he, hb⟩ => ?_
  subst he
  exact ⟨_, rfl, hend W' hb rfl⟩

theorem over : Rows.connectBackRow.holds Try.pinned (OpenSpec.ofChange Rows.connectBackSpec) :=
  OpenClaim.holds_of_wide 8 Try.f8 rfl rfl rfl rfl rfl rfl rfl ⟨rfl, rfl, rfl, rfl, rfl⟩ rfl rfl rfl rfl rfl (by kernel_rfl) Try.func8 (by kernel_rfl)
    (of_decide_eq_true (by kernel_rfl)) (by unfold Func.isWrapper; first | (rw [if_pos (by decide +kernel)]; kernel_rfl) | (rw [if_neg (by decide +kernel)]; exact ⟨rfl, rfl⟩))
    (fun os started H enc _ => lifted os started H enc)

/-- The statement. -/
theorem proved : Rows.ConnectBackSaid :=
  over
#print axioms proved
end Go.Proofs.Ytkngobfkfleacaa.connectBack
