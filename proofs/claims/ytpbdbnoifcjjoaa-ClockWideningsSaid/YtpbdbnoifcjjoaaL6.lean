/- The widening is the document's: proved for every deviation and span, out of the reckoning of the law's function and of all that it calls. -/
import Derived.Test.YtpbdbnoifcjjoaaC6
import Derived.WalkKit
import Derived.ProofKit
import Derived.OpenShut
import Derived.Carry
namespace Go.Proofs.Ytpbdbnoifcjjoaa.clockWidenings
open Go.ChangeShapes Go.WideShapes Go.ChangeAt Go.RowKit Go.Aw Go.Aw.Clock
set_option linter.unusedVariables false

theorem own : ownKnob Try.prog.godebug = none := by kernel_rfl

theorem law (p n : Int) : evFun C5 3 6 [i p, i n] [] (fun r _ => r = .v (.bool true)) := by
  have : evFun C5 3 6 [i p, i n] [] (fun r _ => r = .v (.bool true)) = also [a3, a3, a3, a3, a3, a3, a2] (AV.v (El := ElC) (Value.bool (bif true then widF p n == widF p n else false)) = .v (.bool true)) := by kernel_rfl
  exact this.mpr (also_of (by simp [a3, a2]) (by simp))

theorem glob_any {env : Env} {w : World} {g : Nat} : Γ S env w (S.glob g) (.pointer (some ⟨g, 0, none⟩)) := Γ.any _

theorem walk (a0 : Int) (a1 : Int) (w : World) :
    Calls Try.prog 6 #[.int .i64 a0, .int .i64 a1] w fun e w' => e = .returned (.bool true) ∧ Below w.heap.size w w' :=
  law_of_fun ok5 3 (args := [i a0, i a1]) (law a0 a1) (vals := [.int .i64 a0, .int .i64 a1]) (.cons (.v _) (.cons (.v _) .nil)) (fun g => glob_any)

set_option maxRecDepth 100000 in
theorem lifted (os : Os) (started : os.Started) (H : Type) (enc : TypeId × Value → H) :
    ReturnsInHanded {} Try.checked os 6 .any (Rows.clockWideningsSpec.pre6 enc Try.prog Try.f6 Rows.clockWideningsRow.domain false) (Rows.clockWideningsSpec.post enc Try.prog Try.f6 false true false false) := by
  refine returnsInHanded_of_change (C := Try.checked) own started (by kernel_rfl) Try.func6
    (ChangeSpec.witness6 (enc := enc) (C := Try.checked) false ⟨#[], #[.int .i64 0, .int .i64 0], []⟩ 8 (by kernel_rfl) (by kernel_rfl) (by kernel_rfl) (by kernel_rfl)) ?_
  intro W base args ds gs before hval0 hW hcnd _
  have hval : ∀ (j : Nat) t v, Try.f6.params[j]? = some t → args[j]? = some v → Value.okWide Try.prog W .any base t v := hval0
  have hW' := hW
  obtain ⟨p, q, hA0, hV, rfl, hfz, hnd⟩ := hW
  have hA : DataW.TrodAll enc Try.prog W 0 (fun _ => true) true Try.f6.params.toList args.toList ds p := hA0
  rw [Try.params6] at hA hval
  obtain ⟨v0, vs0, d0, ds0, p0, q0, hargs, rfl, rfl, h0, r0⟩ := trodAll_cons hA
  obtain ⟨v1, vs1, d1, ds1, p1, q1, rfl, rfl, rfl, h1, r1⟩ := trodAll_cons r0
  obtain ⟨rfl, rfl, rfl⟩ := trodAll_nil r1
  obtain rfl : args = #[v0, v1] := by cases args; simp_all
  obtain ⟨rfl, rfl⟩ := trodVars_none hV
  obtain ⟨a0, rfl, rfl, rfl, w0⟩ := open_int Try.underlying3 (hval 0 3 v0 rfl rfl) h0
  obtain ⟨a1, rfl, rfl, rfl, w1⟩ := open_int Try.underlying3 (hval 1 3 v1 rfl rfl) h1
  clear hA0 hval0
  simp only [List.append_nil] at hW'
  refine (walk a0 a1 W).mono fun e W' ⟨he, hb⟩ => ?_
  subst he
  exact ⟨_, rfl, _, _, _, [], [], [], hW', trodAll_cons_mk (shut_bool Try.underlying4 _) trodAll_mk0, trodAll_cons_mk (shut_int Try.underlying3 w0) (trodAll_cons_mk (shut_int Try.underlying3 w1) trodAll_mk0), rfl, hb.frame _, fun h => by cases h⟩

theorem over : Rows.clockWideningsRow.holds Try.pinned (OpenSpec.ofChange Rows.clockWideningsSpec) :=
  OpenClaim.holds_of_wide 6 Try.f6 rfl rfl rfl rfl rfl rfl rfl ⟨rfl, rfl, rfl, rfl, rfl⟩ rfl rfl rfl rfl rfl (by kernel_rfl) Try.func6 (by kernel_rfl)
    (of_decide_eq_true (by kernel_rfl)) (by unfold Func.isWrapper; first | (rw [if_pos (by decide +kernel)]; kernel_rfl) | (rw [if_neg (by decide +kernel)]; exact ⟨rfl, rfl⟩))
    (fun os started H enc _ => lifted os started H enc)

/-- ████ THE STATEMENT ████ -/
theorem proved : Rows.ClockWideningsSaid :=
  over
#print axioms proved
end Go.Proofs.Ytpbdbnoifcjjoaa.clockWidenings
