/- The laws of chapter 26. -/
import Derived.Test.YtlnbhdcaebmffaaOp
import Derived.Test.YtlnbhdcaebmffaaConn
import Derived.Test.YtlnbhdcaebmffaaW16
set_option linter.unusedVariables false
set_option maxRecDepth 8000
namespace Go.Aw.W
open Go Go.Aw Go.Proofs
theorem ex26_true : ex26 = true := rfl
def known (k : Int) : Bool := [0, 1, 2, 3, 4, 5, 6, 7, 8, 9, 12, 13, 15, 18, 19, 20, 21].contains k
theorem known_cases {k : Int} (h : known k = true) : k = 0 ∨ k = 1 ∨ k = 2 ∨ k = 3 ∨ k = 4 ∨ k = 5 ∨ k = 6 ∨ k = 7 ∨ k = 8 ∨ k = 9 ∨ k = 12 ∨ k = 13 ∨ k = 15 ∨ k = 18 ∨ k = 19 ∨ k = 20 ∨ k = 21 := by
  simpa [known] using h
theorem known_not {k : Int} (h : known k = false) : (k == (0 : Int)) = false ∧ (k == (1 : Int)) = false ∧ (k == (2 : Int)) = false ∧ (k == (3 : Int)) = false ∧ (k == (4 : Int)) = false ∧ (k == (5 : Int)) = false ∧ (k == (6 : Int)) = false ∧ (k == (7 : Int)) = false ∧ (k == (8 : Int)) = false ∧ (k == (9 : Int)) = false ∧ (k == (12 : Int)) = false ∧ (k == (13 : Int)) = false ∧ (k == (15 : Int)) = false ∧ (k == (18 : Int)) = false ∧ (k == (19 : Int)) = false ∧ (k == (20 : Int)) = false ∧ (k == (21 : Int)) = false := by
  simp [known] at h
  simp only [beq_eq_false_iff_ne, ne_eq]
  omega
theorem proc_eq (k : Int) : cProc k = r26Proc k ∧ cProc (cProc k) = cProc k := by
  cases h : known k
  · obtain ⟨e0, e1, e2, e3, e4, e5, e6, e7, e8, e9, e12, e13, e15, e18, e19, e20, e21⟩ := known_not h
    have h1 : cProc k = -1 := by unfold cProc; simp only [e0, e1, e2, e3, e4, e5, e6, e8, e9, e12, e15, e18, e19, e20, e21, cond_false]
    have h2 : r26Proc k = -1 := by unfold r26Proc; simp only [e0, e1, e2, e3, e4, e5, e6, e8, e9, e12, e15, e18, e19, e20, e21, cond_false]
    rw [h1, h2]
    exact ⟨rfl, rfl⟩
  · rcases known_cases h with rfl | rfl | rfl | rfl | rfl | rfl | rfl | rfl | rfl | rfl | rfl | rfl | rfl | rfl | rfl | rfl | rfl <;> exact ⟨rfl, rfl⟩
theorem ctrlpduProcedures_true (kind : Int) (b0 : IntKind.has .i64 kind) : ctrlpduProcedures kind = true := by
  unfold ctrlpduProcedures
  rw [ex26_true, (proc_eq kind).1, ← (proc_eq kind).1, (proc_eq kind).2]
  simp
end Go.Aw.W
