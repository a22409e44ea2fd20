/- New: what the program makes is what the document says (own work). -/
import Derived.Test.YtlnbhdcaebmffaaXAwN
import Derived.Test.YtlnbhdcaebmffaaXW13
set_option linter.unusedVariables false
namespace Go.Aw.W
open Go Go.Aw Go.Proofs
theorem procNew_eq (role features limit : Int) : procNew role features limit = r28New role features limit := by
  unfold procNew r28New
  have h : maxI (27 : Int) (minI limit 251) = minI (maxI limit 27) 251 := by simp only [minI_eq, maxI_eq]; omega
  rw [h]
  by_cases hr : role = 1
  · subst hr; rfl
  · have h1 : (role == (1 : Int)) = false := by simpa using hr
    have h2 : (role != (1 : Int)) = true := by simpa using hr
    rw [h1, h2]; rfl
theorem sameProcs_refl (a : Procs) (h1 : a.Waiting = []) (h2 : a.Pending = []) : sameProcs a a = true := by
  unfold sameProcs
  rw [h1, h2]
  simp only [bne_self_eq_false, beq_self_eq_true, Bool.not_true, cond_false]
  rfl
theorem procedureNews_true (x0 x1 x2 : Int) (b0 : IntKind.has .i64 x0) (b1 : IntKind.has .u64 x1) (b2 : IntKind.has .i64 x2) : procedureNews x0 x1 x2 = true := by
  unfold procedureNews
  rw [procNew_eq, sameProcs_refl]
  · rfl
  · unfold r28New; cases (x0 == (1 : Int)) <;> rfl
  · unfold r28New; cases (x0 == (1 : Int)) <;> rfl
end Go.Aw.W
