/- The seven laws of the clock, reckoned. -/
import Derived.Test.YtpbdbnoifcjjoaaC5
set_option linter.unusedVariables false
namespace Go.Aw.Clock
open Go.Aw Go.Proofs
def tab4 : FuncId → Option (Ct ElC) := fun n => match n with | 11 => some checkCt | 12 => some checkCt | 13 => some localCt | 14 => some localCt | 15 => some realCt | 16 => some realCt | 17 => some widCt | 18 => some widCt | _ => none
noncomputable def C4 : Cx := { P := Try.prog, S := S, eqT := fun _ => false, T := tab4, F := fun n => match n with | 3 => some Try.f3 | 4 => some Try.f4 | 5 => some Try.f5 | 6 => some Try.f6 | 7 => some Try.f7 | 8 => some Try.f8 | 9 => some Try.f9 | 10 => some Try.f10 | _ => none }
theorem ok4 : CxOk C4 := by
  refine ⟨sigOk, (fun t h => by cases h), (fun f ct h => ?_), (fun f ct h => ?_), fun f fn h => ?_, mixed⟩
  · simp only [C4, tab4] at h
    split at h
    · cases h; exact chk11
    · cases h; exact chk12
    · cases h; exact local13
    · cases h; exact local14
    · cases h; exact real15
    · cases h; exact real16
    · cases h; exact wid17
    · cases h; exact wid18
    · cases h
  · simp only [C4, tab4] at h
    split at h
    · cases h; exact ⟨_, Try.func11, by kernel_rfl, by kernel_rfl⟩
    · cases h; exact ⟨_, Try.func12, by kernel_rfl, by kernel_rfl⟩
    · cases h; exact ⟨_, Try.func13, by kernel_rfl, by kernel_rfl⟩
    · cases h; exact ⟨_, Try.func14, by kernel_rfl, by kernel_rfl⟩
    · cases h; exact ⟨_, Try.func15, by kernel_rfl, by kernel_rfl⟩
    · cases h; exact ⟨_, Try.func16, by kernel_rfl, by kernel_rfl⟩
    · cases h; exact ⟨_, Try.func17, by kernel_rfl, by kernel_rfl⟩
    · cases h; exact ⟨_, Try.func18, by kernel_rfl, by kernel_rfl⟩
    · cases h
  · simp only [C4, tab4] at h
    split at h
    · cases h; exact ⟨Try.func3, by kernel_rfl⟩
    · cases h; exact ⟨Try.func4, by kernel_rfl⟩
    · cases h; exact ⟨Try.func5, by kernel_rfl⟩
    · cases h; exact ⟨Try.func6, by kernel_rfl⟩
    · cases h; exact ⟨Try.func7, by kernel_rfl⟩
    · cases h; exact ⟨Try.func8, by kernel_rfl⟩
    · cases h; exact ⟨Try.func9, by kernel_rfl⟩
    · cases h; exact ⟨Try.func10, by kernel_rfl⟩
    · cases h
def a2 : Prop := true = true → true = true
def a3 : Prop := true = true → true = true → true = true
def owedL : List Prop := [a3, a3, a2, a3, a3, a2, a3, a3, a2, a3, a3, a2, a3, a3, a2, a3, a3, a2, a3, a2, a3, a2, a3, a2]
theorem owedL_ok : ∀ p ∈ owedL, p := by
  intro p hp
  simp only [owedL, List.mem_cons, List.not_mem_nil, or_false, a2, a3] at hp
  rcases hp with rfl | rfl | rfl | rfl | rfl | rfl | rfl | rfl | rfl | rfl | rfl | rfl | rfl | rfl | rfl | rfl | rfl | rfl | rfl | rfl | rfl | rfl | rfl | rfl <;> simp
def livesCt : Ct ElC := fun | [] => some ([], .v (.bool true), []) | _ => none
theorem livesCt_spec {args : List (AV ElC)} {r} (h : livesCt args = some r) : args = [] ∧ r = ([], .v (.bool true), []) := by
  unfold livesCt at h
  split at h
  · cases h; exact ⟨rfl, rfl⟩
  · cases h
theorem lives_ok : CtOk C4 10 livesCt := by
  refine ct_of_fun ok4 3 fun args ps r news h hp => ?_
  obtain ⟨rfl, hr⟩ := livesCt_spec h
  cases hr
  have : evFun C4 3 10 [] [] (G (.v (.bool true))) = also owedL (G (.v (.bool true)) (.v (.bool true)) (Hc (-100) 0)) := by kernel_rfl
  exact this.mpr (also_of owedL_ok ⟨rfl, rfl⟩)
def tab5 : FuncId → Option (Ct ElC) := fun n => match n with | 10 => some livesCt | 11 => some checkCt | 12 => some checkCt | 13 => some localCt | 14 => some localCt | 15 => some realCt | 16 => some realCt | 17 => some widCt | 18 => some widCt | _ => none
noncomputable def C5 : Cx := { P := Try.prog, S := S, eqT := fun _ => false, T := tab5, F := C4.F }
theorem ok5 : CxOk C5 := by
  refine ⟨sigOk, (fun t h => by cases h), (fun f ct h => ?_), (fun f ct h => ?_), ok4.fn, mixed⟩
  · simp only [C5, tab5] at h
    split at h
    · cases h; exact lives_ok
    · cases h; exact chk11
    · cases h; exact chk12
    · cases h; exact local13
    · cases h; exact local14
    · cases h; exact real15
    · cases h; exact real16
    · cases h; exact wid17
    · cases h; exact wid18
    · cases h
  · simp only [C5, tab5] at h
    split at h
    · cases h; exact ⟨_, Try.func10, by kernel_rfl, by kernel_rfl⟩
    · cases h; exact ⟨_, Try.func11, by kernel_rfl, by kernel_rfl⟩
    · cases h; exact ⟨_, Try.func12, by kernel_rfl, by kernel_rfl⟩
    · cases h; exact ⟨_, Try.func13, by kernel_rfl, by kernel_rfl⟩
    · cases h; exact ⟨_, Try.func14, by kernel_rfl, by kernel_rfl⟩
    · cases h; exact ⟨_, Try.func15, by kernel_rfl, by kernel_rfl⟩
    · cases h; exact ⟨_, Try.func16, by kernel_rfl, by kernel_rfl⟩
    · cases h; exact ⟨_, Try.func17, by kernel_rfl, by kernel_rfl⟩
    · cases h; exact ⟨_, Try.func18, by kernel_rfl, by kernel_rfl⟩
    · cases h
end Go.Aw.Clock
