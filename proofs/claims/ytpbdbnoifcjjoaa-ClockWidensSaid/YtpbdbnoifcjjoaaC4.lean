/- Contracts of Check and Real, the program's and the document's. -/
import Derived.Test.YtpbdbnoifcjjoaaC3
set_option linter.unusedVariables false
namespace Go.Aw.Clock
open Go.Aw Go.Proofs
theorem chk11 : CtOk C2 11 checkCt := by
  refine ct_of_fun ok2 3 fun args ps r news h hp => ?_
  obtain ⟨p, s, rfl, hr⟩ := checkCt_spec h
  cases hr
  have : evFun C2 3 11 [ck p s] [] (G (i (checkF p s))) = (Ob ((!p != minI (maxI p (-500)) 500) = true → (!p != minI (maxI p (-500)) 500) = true → (!p != minI (maxI p (-500)) 500) = true) ∧ Ob ((!p != minI (maxI p (-500)) 500) = true → (!p != minI (maxI p (-500)) 500) = true → (!p != minI (maxI p (-500)) 500) = true) ∧ Ob ((!p != minI (maxI p (-500)) 500) = true → (!p != minI (maxI p (-500)) 500) = true → (!p != minI (maxI p (-500)) 500) = true) ∧ Ob ((!p != minI (maxI p (-500)) 500) = true → (!p != minI (maxI p (-500)) 500) = true → (!p != minI (maxI p (-500)) 500) = true) ∧ Ob ((!p != minI (maxI p (-500)) 500) = true → (!p != minI (maxI p (-500)) 500) = true → (!p != minI (maxI p (-500)) 500) = true) ∧ Ob ((p != minI (maxI p (-500)) 500) = false → (!p != minI (maxI p (-500)) 500) = true) ∧
     (((bif p != minI (maxI p (-500)) 500 then true else s != minI (maxI s 0) 1099511627776) = true → G (i (checkF p s)) (i 5) (Hc p s)) ∧ ((bif p != minI (maxI p (-500)) 500 then true else s != minI (maxI s 0) 1099511627776) = false → G (i (checkF p s)) (i 0) (Hc p s)))) := by kernel_rfl
  refine this.mpr ⟨⟨fun _ h => h⟩, ⟨fun _ h => h⟩, ⟨fun _ h => h⟩, ⟨fun _ h => h⟩, ⟨fun _ h => h⟩, ⟨fun h => by rw [h]; rfl⟩, fun h => ?_, fun h => ?_⟩
  · rw [show checkF p s = 5 by
      unfold checkF
      refine if_pos ?_
      simp only [minI_eq, maxI_eq, cond_eq_ite, bne_iff_ne, ne_eq, ite_eq_left_iff] at h
      omega]
    exact ⟨rfl, rfl⟩
  · rw [show checkF p s = 0 by
      unfold checkF
      refine if_neg ?_
      by_cases h1 : p = minI (maxI p (-500)) 500
      · by_cases h2 : s = minI (maxI s 0) 1099511627776
        · simp only [minI_eq, maxI_eq] at h1 h2
          omega
        · rw [show (p != minI (maxI p (-500)) 500) = false by simpa using h1] at h
          simp [h2] at h
      · rw [show (p != minI (maxI p (-500)) 500) = true by simpa using h1] at h
        cases h]
    exact ⟨rfl, rfl⟩
def b12 (p s : Int) : Bool := bif bif bif decide (p < -500) then true else decide (500 < p) then true else decide (s < 0) then true else decide (1099511627776 < s)
def c1 (p : Int) : Bool := decide (p < -500)
def c2 (p : Int) : Bool := bif decide (p < -500) then true else decide (500 < p)
def c3 (p s : Int) : Bool := bif bif decide (p < -500) then true else decide (500 < p) then true else decide (s < 0)
theorem chk12 : CtOk C2 12 checkCt := by
  refine ct_of_fun ok2 3 fun args ps r news h hp => ?_
  obtain ⟨p, s, rfl, hr⟩ := checkCt_spec h
  cases hr
  have : evFun C2 3 12 [ck p s] [] (G (i (checkF p s))) = (Ob ((!c1 p) = true → (!c1 p) = true → (!c1 p) = true) ∧ Ob ((!c1 p) = true → (!c1 p) = true → (!c1 p) = true) ∧ Ob (c1 p = false → (!c1 p) = true) ∧
      Ob ((!c2 p) = true → (!c2 p) = true → (!c2 p) = true) ∧ Ob ((!c2 p) = true → (!c2 p) = true → (!c2 p) = true) ∧ Ob (c2 p = false → (!c2 p) = true) ∧
      Ob ((!c3 p s) = true → (!c3 p s) = true → (!c3 p s) = true) ∧ Ob ((!c3 p s) = true → (!c3 p s) = true → (!c3 p s) = true) ∧ Ob (c3 p s = false → (!c3 p s) = true) ∧
     ((b12 p s = true → G (i (checkF p s)) (i 5) (Hc p s)) ∧ (b12 p s = false → G (i (checkF p s)) (i 0) (Hc p s)))) := by kernel_rfl
  have hb : b12 p s = decide (p < -500 ∨ 500 < p ∨ s < 0 ∨ 1099511627776 < s) := by
    unfold b12
    rw [Bool.eq_iff_iff]
    simp [cond_eq_ite]
    by_cases h1 : p < -500 <;> by_cases h2 : 500 < p <;> by_cases h3 : s < 0 <;> simp [h1, h2, h3]
  refine this.mpr ⟨⟨fun _ h => h⟩, ⟨fun _ h => h⟩, ⟨fun h => by rw [h]; rfl⟩, ⟨fun _ h => h⟩, ⟨fun _ h => h⟩, ⟨fun h => by rw [h]; rfl⟩, ⟨fun _ h => h⟩, ⟨fun _ h => h⟩, ⟨fun h => by rw [h]; rfl⟩, fun h => ?_, fun h => ?_⟩
  · rw [show checkF p s = 5 from if_pos (of_decide_eq_true (hb ▸ h))]
    exact ⟨rfl, rfl⟩
  · rw [show checkF p s = 0 from if_neg (of_decide_eq_false (hb ▸ h))]
    exact ⟨rfl, rfl⟩
end Go.Aw.Clock
