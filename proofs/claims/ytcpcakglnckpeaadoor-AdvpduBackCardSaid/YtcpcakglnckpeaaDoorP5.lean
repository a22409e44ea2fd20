/- The laws of chapter 19: encoding. -/
import Derived.Test.YtcpcakglnckpeaaDoorP4
set_option linter.unusedVariables false
set_option maxRecDepth 4000
namespace Go.Aw.W
open Go Go.Aw Go.Proofs
theorem pHead_eq (p : AdvPDU) (h0 : 0 ≤ p.Kind) (h6 : p.Kind ≤ 6) : pHead p = r19First p := by
  unfold pHead r19First
  rw [form_target]
  generalize (p.Sender.Kind != (1 : Int)) = x
  generalize (p.Target.Kind != (1 : Int)) = y
  generalize p.Kind = k at *
  rcases (by omega : k = 0 ∨ k = 1 ∨ k = 2 ∨ k = 3 ∨ k = 4 ∨ k = 5 ∨ k = 6) with rfl | rfl | rfl | rfl | rfl | rfl | rfl <;> cases x <;> cases y <;> decide
theorem ne_true {n : Int} (h : n ≠ 0) : (n != 0) = true := by simp [h]
theorem check_kind (p : AdvPDU) (hz : r19Check p = 0) : 0 ≤ p.Kind ∧ p.Kind ≤ 6 := by
  unfold r19Check at hz
  by_cases h0 : p.Kind < 0
  · rw [decide_eq_true h0] at hz; exact absurd hz (by simp)
  · by_cases h6 : 6 < p.Kind
    · rw [decide_eq_true h6] at hz
      have e : (bif decide (p.Kind < (0 : Int)) then true else true) = true := by cases decide (p.Kind < (0 : Int)) <;> rfl
      rw [e] at hz; exact absurd hz (by simp)
    · omega
theorem check_data (p : AdvPDU) (h5 : (p.Kind == (5 : Int)) = true) (hz : r19Check p = 0) : p.Data = [] := by
  have e : p.Kind = 5 := by simpa using h5
  unfold r19Check at hz
  rw [e, show hasTarget 5 = true by decide, show hasData 5 = false by decide] at hz
  by_cases hd : (0 : Int) < p.Data.length
  · rw [decide_eq_true hd] at hz
    by_cases a1 : r8Check p.Sender = 0
    · by_cases a2 : r8Check p.Target = 0
      · rw [a1, a2] at hz; exact absurd (show (1 : Int) = 0 from hz) (by decide)
      · rw [a1, ne_true a2] at hz; exact absurd hz a2
    · rw [ne_true a1] at hz; exact absurd hz a1
  · exact List.eq_nil_of_length_eq_zero (by omega)
theorem pEncode_eq (p : AdvPDU) (h : p.has) : pEncode p = r19Encode p := by
  have hc := pCheck_eq p h
  obtain ⟨h0, h1, h2, h3, h4⟩ := h
  unfold pEncode r19Encode
  rw [hc]
  by_cases hz : r19Check p = 0
  · obtain ⟨k0, k6⟩ := check_kind p hz
    rw [form_target, form_conn, pHead_eq p k0 k6, aEncode_eq _ (hasA h1), aEncode_eq _ (hasA h2), encode_same _ (hasP h4).map]
    cases h5 : (p.Kind == (5 : Int))
    · rfl
    · rw [check_data p h5 hz]
      simp only [List.append_nil]
  · rw [ne_true hz]; rfl
theorem strEq_refl (s : ByteArray) : strEq s s = true := by simp [strEq]
theorem r2Same_refl (a : List Int) : r2Same a a = true := strEq_refl _
theorem advpduEncodes_pre (p : AdvPDU) (b0 : p.has) : p.Data.length ≤ 140737488351232 := advpduChecks_pre p b0
theorem advpduEncodes_true (p : AdvPDU) (b0 : p.has) : advpduEncodes p = true := by
  unfold advpduEncodes
  rw [lives19_true, own19_eq, pEncode_eq p b0, r2Same_refl]
  simp
end Go.Aw.W
