/- The laws of chapter 19: each function of the laws gives true. -/
import Derived.Test.YtcpcakglnckpeaaDoorOp
import Derived.Test.YtcpcakglnckpeaaDoorAddr
import Derived.Test.YtcpcakglnckpeaaDoorConn
import Derived.Test.YtcpcakglnckpeaaDoorP1c
set_option linter.unusedVariables false
set_option maxRecDepth 4000
namespace Go.Aw.W
open Go Go.Aw Go.Proofs
theorem has_u64 {n : Int} (h : IntKind.has .u64 n) : 0 ≤ n ∧ n < 18446744073709551616 := by
  have : 0 ≤ n ∧ n ≤ 18446744073709551615 := by simpa [IntKind.has, IntKind.min, IntKind.max, IntKind.bits, IntKind.signed] using h
  omega
theorem has_u32 {n : Int} (h : IntKind.has .u32 n) : 0 ≤ n ∧ n < 4294967296 := by
  have : 0 ≤ n ∧ n ≤ 4294967295 := by simpa [IntKind.has, IntKind.min, IntKind.max, IntKind.bits, IntKind.signed] using h
  omega
theorem has_u8 {n : Int} (h : IntKind.has .u8 n) : 0 ≤ n ∧ n < 256 := by
  have : 0 ≤ n ∧ n ≤ 255 := by simpa [IntKind.has, IntKind.min, IntKind.max, IntKind.bits, IntKind.signed] using h
  omega
theorem hasP {p : ConnParams} (h : p.has) : HasP p := by
  obtain ⟨h0, h1, h2, h3, h4, h5, h6⟩ := h
  have := has_u32 h0; have := has_u32 h1; have := has_u64 h3
  exact ⟨by omega, by omega, by omega, by omega, by omega⟩
theorem hasA {a : Address} (h : a.has) : HasA a := has_u64 h.2
theorem has_bytes {b : List Int} (h : ∀ y ∈ b, IntKind.has .u8 y) : Bytes b := fun x hx => has_u8 (h x hx)
theorem lives19_true : lives19 = true := by decide +kernel
theorem advpduKinds_true (kind : Int) (b0 : IntKind.has .i64 kind) : advpduKinds kind = true := by
  unfold advpduKinds
  rw [lives19_true]
  unfold aScan r19Scan aConn r19Conn
  simp
/-! The kinds. -/
theorem kinds_out {k : Int} (h : ¬ (0 ≤ k ∧ k ≤ 6)) : (k == (0 : Int)) = false ∧ (k == (1 : Int)) = false ∧ (k == (2 : Int)) = false ∧ (k == (3 : Int)) = false ∧ (k == (4 : Int)) = false ∧ (k == (5 : Int)) = false ∧ (k == (6 : Int)) = false := by
  simp only [beq_eq_false_iff_ne, ne_eq]; omega
theorem form_all (k : Int) : (aForm k).known = (!(bif decide (k < (0 : Int)) then true else decide ((6 : Int) < k))) ∧ (aForm k).target = hasTarget k ∧ (aForm k).data = hasData k ∧ (aForm k).conn = (k == (5 : Int)) := by
  by_cases h : 0 ≤ k ∧ k ≤ 6
  · rcases (by omega : k = 0 ∨ k = 1 ∨ k = 2 ∨ k = 3 ∨ k = 4 ∨ k = 5 ∨ k = 6) with rfl | rfl | rfl | rfl | rfl | rfl | rfl <;> decide
  · obtain ⟨e0, e1, e2, e3, e4, e5, e6⟩ := kinds_out h
    have hk : (bif decide (k < (0 : Int)) then true else decide ((6 : Int) < k)) = true := by
      by_cases h0 : k < 0
      · simp [h0]
      · have h6 : 6 < k := by omega
        simp [h6]
    rw [hk]
    unfold aForm hasTarget hasData
    simp only [e0, e1, e2, e3, e4, e5, e6]
    exact ⟨rfl, rfl, rfl, rfl⟩
theorem form_known (k : Int) : (aForm k).known = !(bif decide (k < (0 : Int)) then true else decide ((6 : Int) < k)) := (form_all k).1
theorem form_target (k : Int) : (aForm k).target = hasTarget k := (form_all k).2.1
theorem form_data (k : Int) : (aForm k).data = hasData k := (form_all k).2.2.1
theorem form_conn (k : Int) : (aForm k).conn = (k == (5 : Int)) := (form_all k).2.2.2
theorem own19_eq (p : AdvPDU) : own19 p = p := by unfold own19; rfl
theorem pCheck_eq (p : AdvPDU) (h : p.has) : pCheck p = r19Check p := by
  obtain ⟨h0, h1, h2, h3, h4⟩ := h
  unfold pCheck r19Check
  rw [form_known, form_target, form_data, form_conn, aCheck_eq _ (hasA h1), aCheck_eq _ (hasA h2), check_same _ (hasP h4).map, Bool.not_not]
theorem advpduChecks_pre (p : AdvPDU) (b0 : p.has) : p.Data.length ≤ 140737488351232 := by have := b0.2.2.2.1.2; omega
theorem advpduChecks_true (p : AdvPDU) (b0 : p.has) : advpduChecks p = true := by
  unfold advpduChecks
  rw [lives19_true, own19_eq, pCheck_eq p b0]
  simp
end Go.Aw.W
