/- The plain laws of addresses (own work). -/
import Derived.Test.YtcpcakglnckpeaaDoorOct
import Derived.Test.YtcpcakglnckpeaaDoorW9
set_option linter.unusedVariables false
namespace Go.Aw.W
open Go Go.Aw Go.Proofs
def HasA (a : Address) : Prop := 0 ≤ a.Bits ∧ a.Bits < 18446744073709551616
theorem mask22 : aMask 22 = 4194303 := by decide
theorem mask46 : aMask 46 = 70368744177663 := by decide
theorem bits_shr (n : Int) (h0 : 0 ≤ n) {k : Int} {p : Int} (k0 : 0 ≤ k) (k1 : k ≤ 64) (hp : (2 : Int) ^ k.toNat = p) : shrK IntKind.u64 n k = n / p := by
  rw [shr_eq n k0 (by simp only [IntKind.bits]; omega), hp]
theorem aCheck_eq (a : Address) (h : HasA a) : aCheck a = r8Check a := by
  obtain ⟨h0, h1⟩ := h
  unfold aCheck r8Check aPart
  rw [bits_shr a.Bits h0 (k := 48) (p := 281474976710656) (by decide) (by decide) (by decide), bits_shr a.Bits h0 (k := 46) (p := 70368744177664) (by decide) (by decide) (by decide), bits_shr a.Bits h0 (k := 24) (p := 16777216) (by decide) (by decide) (by decide)]
  rw [mask22, mask46, Int.tdiv_eq_ediv_of_nonneg h0, Int.tmod_eq_emod_of_nonneg h0, Int.tdiv_eq_ediv_of_nonneg (by omega), wu64 (a.Bits / 70368744177664) (by omega) (by omega), wu64 (a.Bits % 70368744177664 / 16777216) (by omega) (by omega)]
  rw [band_low (n := 22) rfl (by omega) (by rw [p64]; omega) (by decide) (by decide), band_low (n := 46) rfl (by omega) (by rw [p64]; omega) (by decide) (by decide)]
  rw [show (2 : Int) ^ 22 = 4194304 by decide, show (2 : Int) ^ 46 = 70368744177664 by decide]
  have e1 : a.Bits / 16777216 % 4194304 = a.Bits % 70368744177664 / 16777216 := by omega
  rw [e1]
  by_cases k0 : a.Kind ≤ 0
  · have k1 : a.Kind < 1 := by omega
    simp [k0, k1]
  · by_cases k5 : 5 ≤ a.Kind
    · have k4 : 4 < a.Kind := by omega
      simp [k5, k4]
    · have k1 : ¬ a.Kind < 1 := by omega
      have k4 : ¬ 4 < a.Kind := by omega
      simp only [k0, k5, k1, k4, decide_false, cond_false]
      by_cases hb : (281474976710656 : Int) ≤ a.Bits
      · have h3 : (a.Bits / 281474976710656 != 0) = true := by simp only [bne_iff_ne, ne_eq]; omega
        rw [h3, decide_eq_true hb]; rfl
      · have h3 : (a.Bits / 281474976710656 != 0) = false := by simp only [bne_eq_false_iff_eq]; omega
        rw [h3, decide_eq_false hb, cond_false, cond_false]
        rcases (by omega : a.Kind = 1 ∨ a.Kind = 2 ∨ a.Kind = 3 ∨ a.Kind = 4) with e | e | e | e
        · simp [e]
        · simp [e, r8prefix, prefixes, mask46]
        · simp [e, r8prefix, prefixes, mask22]
        · simp [e, r8prefix, prefixes, mask46]
theorem aCheck_ok (a : Address) (h : HasA a) (hz : aCheck a = 0) : 1 ≤ a.Kind ∧ a.Kind ≤ 4 ∧ a.Bits < 281474976710656 := by
  rw [aCheck_eq a h] at hz
  unfold r8Check at hz
  by_cases k1 : a.Kind < 1
  · simp [k1] at hz
  · by_cases k4 : 4 < a.Kind
    · simp [k1, k4] at hz
    · by_cases hb : (281474976710656 : Int) ≤ a.Bits
      · simp [k1, k4, hb] at hz
      · omega
theorem num8_one (k : Int) : num8 1 k = [k % 256] := rfl
theorem aEncode_ok (a : Address) (h : HasA a) (hz : aCheck a = 0) : aEncode a = (a.Kind :: num8 6 a.Bits, 0) := by
  obtain ⟨k1, k4, hb⟩ := aCheck_ok a h hz
  have h0 := h.1
  unfold aEncode
  rw [oPut_eq _ (by
    intro f hf
    simp only [List.mem_cons, List.not_mem_nil, or_false] at hf
    rcases hf with rfl | rfl
    · rw [wu64m]; exact ⟨by dsimp only; omega, by dsimp only; omega⟩
    · exact h) (by simp), hz]
  rw [wu64 a.Kind (by omega) (by omega)]
  have o1 : okField { Size := 1, Value := a.Kind } = true := decide_eq_true ⟨(by dsimp only; omega), (by dsimp only; omega), by show a.Kind < 256 ^ 1; omega⟩
  have o2 : okField { Size := 6, Value := a.Bits } = true := decide_eq_true ⟨(by dsimp only; omega), (by dsimp only; omega), by show a.Bits < 256 ^ 6; omega⟩
  rw [putL_spec _ _ (by simp [o1, o2])]
  simp only [bne_self_eq_false, cond_false, List.nil_append, List.flatMap_cons, List.flatMap_nil, List.append_nil]
  show (num8 1 a.Kind ++ num8 6 a.Bits, (0 : Int)) = _
  rw [num8_one, Int.emod_eq_of_lt (by omega) (by omega)]; rfl
theorem aEncode_err (a : Address) (hz : aCheck a ≠ 0) : aEncode a = ([], aCheck a) := by
  unfold aEncode
  have e : (aCheck a != 0) = true := by simp [hz]
  rw [e, cond_true]
theorem aEncode_eq (a : Address) (h : HasA a) : aEncode a = r8Encode a := by
  by_cases hz : aCheck a = 0
  · obtain ⟨k1, k4, hb⟩ := aCheck_ok a h hz
    rw [aEncode_ok a h hz]
    unfold r8Encode
    rw [← aCheck_eq a h, hz, r2Num_eq 6 a.Bits (by decide) h.1 h.2, wu8m, Int.emod_eq_of_lt (by omega) (by omega)]
    rfl
  · rw [aEncode_err a hz]
    unfold r8Encode
    have e : (r8Check a != 0) = true := by rw [← aCheck_eq a h]; simp [hz]
    rw [e, cond_true, aCheck_eq a h]
def addrOf (b : List Int) : Address := ⟨b.getD 0 0, val8 ((b.drop 1).take 6)⟩
def decA (b : List Int) : Address × List Int × Int := bif decide ((b.length : Int) < 7) then (Address.zero, [], 3) else bif aCheck (addrOf b) != 0 then (Address.zero, [], aCheck (addrOf b)) else (addrOf b, b.drop 7, 0)
theorem addr_has (b : List Int) (hb : Bytes b) : HasA (addrOf b) := by
  have h := val8_lt (b.drop 1) (hb.drop 1) 6 (by omega)
  exact ⟨h.1, h.2.2⟩
theorem aDecode_val (b : List Int) (hb : Bytes b) : aDecode b = decA b := by
  unfold aDecode decA
  rw [oTake_eq b _ hb (by decide)]
  unfold takeA
  rw [show ([(1 : Int), (6 : Int)].all okSize) = true by decide, cond_true, show [(1 : Int), (6 : Int)].sum = 7 by decide]
  by_cases hl : (b.length : Int) < 7
  · simp only [hl, decide_true, cond_true]; rfl
  · simp only [hl, decide_false, cond_false]
    have e0 : val8 (b.take 1) = b.getD 0 0 := by
      match b, hl with
      | [], hl => simp at hl
      | x :: l, _ => simp [val8]
    have e1 : takeL b [] [1, 6] = ([b.getD 0 0, val8 ((b.drop 1).take 6)], (b.drop 1).drop 6, 0) := by
      show takeL ((b.drop 1).drop 6) (([] ++ [val8 (b.take 1)]) ++ [val8 ((b.drop 1).take 6)]) [] = _
      rw [e0]; rfl
    rw [e1]
    simp only [bne_self_eq_false, cond_false]
    have hb0 := hb.getD 0
    have ea : ({ Kind := IntKind.wrap IntKind.i64 (List.getD [b.getD 0 0, val8 ((b.drop 1).take 6)] (Int.toNat 0) 0), Bits := List.getD [b.getD 0 0, val8 ((b.drop 1).take 6)] (Int.toNat 1) 0 } : Address) = addrOf b := by
      show ({ Kind := IntKind.wrap IntKind.i64 (b.getD 0 0), Bits := val8 ((b.drop 1).take 6) } : Address) = addrOf b
      rw [wi64 _ (by omega) (by omega)]; rfl
    rw [ea, List.drop_drop]
theorem r8Decode_val (b : List Int) (hb : Bytes b) : r8Decode b = decA b := by
  unfold r8Decode decA
  by_cases hl : (b.length : Int) < 7
  · simp only [hl, decide_true, cond_true]
  · simp only [hl, decide_false, cond_false]
    have hb0 := hb.getD 0
    have e1 : List.drop (Int.toNat 1) (List.take (Int.toNat 7) b) = (b.drop 1).take 6 := by
      show (b.take 7).drop 1 = _
      exact List.drop_take ..
    rw [e1, r2Value_eq _ ((hb.drop 1).take 6) (by rw [List.length_take]; omega)]
    have ea : ({ Kind := IntKind.wrap IntKind.i64 (List.getD b (Int.toNat 0) 0), Bits := val8 ((b.drop 1).take 6) } : Address) = addrOf b := by
      show ({ Kind := IntKind.wrap IntKind.i64 (b.getD 0 0), Bits := val8 ((b.drop 1).take 6) } : Address) = addrOf b
      rw [wi64 _ (by omega) (by omega)]; rfl
    rw [ea, ← aCheck_eq _ (addr_has b hb)]
    have e2 : List.drop (Int.toNat 7) (List.take (Int.toNat (b.length : Int)) b) = b.drop 7 := by
      show (b.take (b.length : Int).toNat).drop 7 = _
      rw [show ((b.length : Int)).toNat = b.length by omega, List.take_length]
    rw [e2]
    cases aCheck (addrOf b) != 0 <;> rfl
theorem aDecode_eq (b : List Int) (hb : Bytes b) : aDecode b = r8Decode b := by rw [aDecode_val b hb, r8Decode_val b hb]
end Go.Aw.W
