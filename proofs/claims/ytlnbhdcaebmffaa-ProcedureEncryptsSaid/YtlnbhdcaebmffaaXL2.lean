/- A request of the central for encryption leads both sides to the same state, with the same salts if the key is found. Proved for every input; no conditions. -/
import Derived.Test.YtlnbhdcaebmffaaXP5
set_option linter.unusedVariables false
namespace Go.Proofs.Ytlnbhdcaebmffaa.procedureEncrypts
open Go Go.ChangeShapes Go.WideShapes Go.ChangeAt Go.RowKit Go.Aw Go.Aw.W
theorem own : ownKnob Try.prog.godebug = none := by kernel_rfl
theorem glob_any {env : Env} {w : World} {g : Nat} : Γ S env w (S.glob g) (.pointer (some ⟨g, 0, none⟩)) := Γ.any _

/-- The walk. -/
theorem walk {v0 : Value} {v1 : Value} {v2 : Value} (x0 : Arr49) (x1 : Int) (x2 : Bool) (b0 : Arr49.has x0) (b1 : IntKind.has .u64 x1) (b2 : True) (w : World) (g0 : Γ S (env0 w) w (Arr49.av x0) v0) (g1 : Γ S (env0 w) w (.v (.int .u64 x1)) v1) (g2 : Γ S (env0 w) w (.v (.bool x2)) v2) : Calls Try.prog 10 #[v0, v1, v2] w fun e w' => e = .returned (.bool true) ∧ Below w.heap.size w w' :=
  law_of procedureEncrypts.ok (args := [Arr49.av x0, .v (.int .u64 x1), .v (.bool x2)]) (vals := [v0, v1, v2]) (x := (x0, x1, x2)) (by kernel_rfl) (fun p hp => by cases hp) (congrArg (fun b => AV.v (Value.bool b)) (procedureEncrypts_true x0 x1 x2 b0 b1 b2)) (by kernel_rfl) (.cons g0 (.cons g1 (.cons g2 .nil))) (fun g => glob_any)

set_option maxRecDepth 100000 in
theorem lifted (os : Os) (started : os.Started) (H : Type) (enc : TypeId × Value → H) :
    ReturnsInHanded {} Try.checked os 10 .any (Rows.procedureEncryptsSpec.pre6 enc Try.prog Try.f10 Rows.procedureEncryptsRow.domain false) (Rows.procedureEncryptsSpec.post enc Try.prog Try.f10 false true false false) := by
  refine returnsInHanded_of_change_sized (C := Try.checked) own started (by kernel_rfl) Try.func10
    (ChangeSpec.witness6 (enc := enc) (C := Try.checked) false ⟨#[], #[.agg #[.int .u64 0, .int .u64 0], .int .u64 0, .bool false], []⟩ 8 (by kernel_rfl) (by kernel_rfl) (by kernel_rfl) (by kernel_rfl)) ?_
  intro W base args ds gs before hval0 hW hcnd hsz _
  have hval : ∀ (j : Nat) t v, Try.f10.params[j]? = some t → args[j]? = some v → Value.okWide Try.prog W .any base t v := hval0
  have hW' := hW
  obtain ⟨p, q, hA0, hV, rfl, hfz, hnd⟩ := hW
  obtain ⟨rfl, rfl⟩ := trodVars_none hV
  rw [List.append_nil] at hW'
  have hA : DataW.TrodAll enc Try.prog W 0 (fun _ => true) true Try.f10.params.toList args.toList ds p := hA0
  have hend : ∀ W', Below W.heap.size W W' → Rows.procedureEncryptsSpec.fn H (ds ++ []) = { results := [.lit (.bool true)], args := ds } → Rows.procedureEncryptsSpec.post enc Try.prog Try.f10 false true false false W args (.bool true) W' := fun W' hb hfn =>
    post_true (tb := 4) (by kernel_rfl) hW' rfl hA (by decide +kernel) rfl Try.underlying4 hfn hb
  rw [Try.params10] at hA hval
  replace hsz : (DataW.weightsEach Try.prog (Try.f10.params.toList ++ Rows.procedureEncryptsSpec.plain.varTypes Try.prog) (ds ++ [])).all (· ≤ reachBytes) = true := hsz
  rw [Try.params10] at hsz
  obtain ⟨v0, vs0, d0, ds0, p0, q0, hargs, rfl, rfl, h0, r0⟩ := trodAll_cons hA
  obtain ⟨v1, vs1, d1, ds1, p1, q1, rfl, rfl, rfl, h1, r1⟩ := trodAll_cons r0
  obtain ⟨v2, vs2, d2, ds2, p2, q2, rfl, rfl, rfl, h2, r2⟩ := trodAll_cons r1
  obtain ⟨rfl, rfl, rfl⟩ := trodAll_nil r2
  obtain rfl : args = #[v0, v1, v2] := by cases args; simp_all
  obtain ⟨x0, g0, b0⟩ := open_agg (S := S) (by kernel_rfl) (Arr49.opn) (hval 0 49 v0 rfl rfl) h0 (weights_arg hsz (j := 0) rfl rfl)
  obtain ⟨x1, g1, b1⟩ := open_flat (S := S) (by kernel_rfl) (opn_int Try.underlying24) (hval 1 24 v1 rfl rfl) h1 (weights_arg hsz (j := 1) rfl rfl)
  obtain ⟨x2, g2, b2⟩ := open_flat (S := S) (by kernel_rfl) (opn_bool Try.underlying4) (hval 2 4 v2 rfl rfl) h2 (weights_arg hsz (j := 2) rfl rfl)
  refine (walk x0 x1 x2 b0 b1 b2 W g0 g1 g2).mono fun e W' ⟨he, hb⟩ => ?_
  subst he
  exact ⟨_, rfl, hend W' hb rfl⟩

theorem over : Rows.procedureEncryptsRow.holds Try.pinned (OpenSpec.ofChange Rows.procedureEncryptsSpec) :=
  OpenClaim.holds_of_wide 10 Try.f10 rfl rfl rfl rfl rfl rfl rfl ⟨rfl, rfl, rfl, rfl, rfl⟩ rfl rfl rfl rfl rfl (by kernel_rfl) Try.func10 (by kernel_rfl)
    (of_decide_eq_true (by kernel_rfl)) (by unfold Func.isWrapper; first | (rw [if_pos (by decide +kernel)]; kernel_rfl) | (rw [if_neg (by decide +kernel)]; exact ⟨rfl, rfl⟩))
    (fun os started H enc _ => lifted os started H enc)

/-- The statement. -/
theorem proved : Rows.ProcedureEncryptsSaid :=
  over
#print axioms proved
end Go.Proofs.Ytlnbhdcaebmffaa.procedureEncrypts
