/- The laws of chapter 17: each function of the laws gives true. -/
import Derived.Test.YtkngobfkfleacaaOp
import Derived.Test.YtkngobfkfleacaaP3
set_option linter.unusedVariables false
namespace Go.Aw.W
open Go Go.Aw Go.Proofs
theorem has_u64 {n : Int} (h : IntKind.has .u64 n) : 0 ≤ n ∧ n < 18446744073709551616 := by
  have : 0 ≤ n ∧ n ≤ 18446744073709551615 := by simpa [IntKind.has, IntKind.min, IntKind.max, IntKind.bits, IntKind.signed] using h
  omega
theorem has_u32 {n : Int} (h : IntKind.has .u32 n) : 0 ≤ n ∧ n < 4294967296 := by
  have : 0 ≤ n ∧ n ≤ 4294967295 := by simpa [IntKind.has, IntKind.min, IntKind.max, IntKind.bits, IntKind.signed] using h
  omega
theorem has_u8 {n : Int} (h : IntKind.has .u8 n) : 0 ≤ n ∧ n < 256 := by
  have : 0 ≤ n ∧ n ≤ 255 := by simpa [IntKind.has, IntKind.min, IntKind.max, IntKind.bits, IntKind.signed] using h
  omega
theorem hasP {p : ConnParams} (h : p.has) : HasP p := by
  obtain ⟨h0, h1, h2, h3, h4, h5, h6⟩ := h
  have := has_u32 h0; have := has_u32 h1; have := has_u64 h3
  exact ⟨by omega, by omega, by omega, by omega, by omega⟩
theorem has_bytes {b : List Int} (h : ∀ y ∈ b, IntKind.has .u8 y) : Bytes b := fun x hx => has_u8 (h x hx)

theorem connectChecks_true (u : Update) (p : ConnParams) (b0 : u.has) (b1 : p.has) : connectChecks u p = true := by
  unfold connectChecks
  rw [lives_true, checkUpdate_eq, check_same p (hasP b1).map]
  simp
theorem connectTimes_true (u : Update) (p1 : Int) (n : Int) (b0 : u.has) (b1 : IntKind.has .i64 p1) (b2 : IntKind.has .i64 n) : connectTimes u p1 n = true := by
  unfold connectTimes
  rw [lives_true, first_eq, anchor_eq, timeout_eq]
  simp
theorem connectExpects_true (u : Update) (x : Law17Wait) (b0 : u.has) (b1 : x.has) : connectExpects u x = true := by
  unfold connectExpects
  rw [lives_true, expect_eq]
  simp
theorem connectMoves_true (was now : Update) (x : Law17Wait) (b0 : was.has) (b1 : now.has) (b2 : x.has) : connectMoves was now x = true := by
  unfold connectMoves
  rw [lives_true, moved_eq]
  simp
theorem connectBytes_true (p : ConnParams) (b : List Int) (b0 : p.has) (b1 : (∀ y ∈ b, IntKind.has .u8 y) ∧ b.length * 1 ≤ 140737488351232) : connectBytes p b = true := by
  unfold connectBytes
  rw [lives_true, encode_same p (hasP b0).map, List.nil_append, decode_same b (has_bytes b1.1), same_refl]
  simp
theorem connectBytes_pre (p : ConnParams) (b : List Int) (b0 : p.has) (b1 : (∀ y ∈ b, IntKind.has .u8 y) ∧ b.length * 1 ≤ 140737488351232) : b.length ≤ 140737488351232 := by omega
theorem connectBack_pre (p : ConnParams) (b : List Int) (b0 : p.has) (b1 : (∀ y ∈ b, IntKind.has .u8 y) ∧ b.length * 1 ≤ 140737488351232) : b.length ≤ 140737488351232 := by omega
theorem connectBack_true (p : ConnParams) (b : List Int) (b0 : p.has) (b1 : (∀ y ∈ b, IntKind.has .u8 y) ∧ b.length * 1 ≤ 140737488351232) : connectBack p b = true := by
  have hb := has_bytes b1.1
  have key : (bif (cDecode b).2 != 0 then ((cDecode b).1.Access == (0 : Int) && ((cDecode b).1.Init == (0 : Int) && ((cDecode b).1.Update.WinSize == (0 : Int) && ((cDecode b).1.Update.WinOffset == (0 : Int) && ((cDecode b).1.Update.Interval == (0 : Int) && ((cDecode b).1.Update.Latency == (0 : Int) && ((cDecode b).1.Update.Timeout == (0 : Int) && ((cDecode b).1.Map == (0 : Int) && ((cDecode b).1.Hop == (0 : Int) && ((cDecode b).1.PPM == (0 : Int) && (cDecode b).1.Algorithm == (0 : Int)))))))))))
      else bif (cEncode (cDecode b).1).2 == 0 then r2Same (cEncode (cDecode b).1).1 b else false) = true := by
    by_cases h : (cDecode b).2 = 0
    · rw [back2 b hb h, same_refl, h]; rfl
    · have e : ((cDecode b).2 != 0) = true := by simp [h]
      rw [e, cond_true, back3 b hb h]; rfl
  unfold connectBack
  simp only [List.nil_append]
  rw [key]
  by_cases h : (cEncode p).2 = 0
  · rw [back1 p (hasP b0) h]
    simp
  · have e : ((cEncode p).2 == 0) = false := by simp [h]
    rw [e]; rfl
end Go.Aw.W
