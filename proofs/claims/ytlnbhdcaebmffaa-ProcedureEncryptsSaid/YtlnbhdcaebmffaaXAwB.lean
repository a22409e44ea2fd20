/-
  Bits of whole numbers without a sign, as plain numbers (own work).
-/
import Derived.Test.YtlnbhdcaebmffaaXAwK
set_option linter.unusedSimpArgs false
set_option linter.unusedVariables false
namespace Go.Aw
open Go

theorem wrap_un {k : IntKind} (hk : k.signed = false) (n : Int) : k.wrap n = n % 2 ^ k.bits := by
  cases k <;> simp [IntKind.signed] at hk <;> simp [IntKind.wrap, IntKind.bits, IntKind.signed]
theorem ofInt_nat {n : Nat} (a : Nat) (ha : a < 2 ^ n) : (BitVec.ofInt n (a : Int)).toNat = a := by
  rw [BitVec.ofInt_natCast, BitVec.toNat_ofNat, Nat.mod_eq_of_lt ha]
theorem two_pow_cast (n : Nat) : ((2 ^ n : Nat) : Int) = (2 : Int) ^ n := by simp
theorem band_nat {k : IntKind} (hk : k.signed = false) (a b : Nat) (ha : a < 2 ^ k.bits) (hb : b < 2 ^ k.bits) : bandK k (a : Int) (b : Int) = ((a &&& b : Nat) : Int) := by
  unfold bandK
  rw [BitVec.toNat_and, ofInt_nat a ha, ofInt_nat b hb, wrap_un hk, ← two_pow_cast]
  have : a &&& b < 2 ^ k.bits := Nat.lt_of_le_of_lt Nat.and_le_left ha
  rw [← Int.natCast_emod, Nat.mod_eq_of_lt this]
theorem bor_nat {k : IntKind} (hk : k.signed = false) (a b : Nat) (ha : a < 2 ^ k.bits) (hb : b < 2 ^ k.bits) : borK k (a : Int) (b : Int) = ((a ||| b : Nat) : Int) := by
  unfold borK
  rw [BitVec.toNat_or, ofInt_nat a ha, ofInt_nat b hb, wrap_un hk, ← two_pow_cast]
  rw [← Int.natCast_emod, Nat.mod_eq_of_lt (Nat.or_lt_two_pow ha hb)]
theorem bxor_nat {k : IntKind} (hk : k.signed = false) (a b : Nat) (ha : a < 2 ^ k.bits) (hb : b < 2 ^ k.bits) : bxorK k (a : Int) (b : Int) = ((a ^^^ b : Nat) : Int) := by
  unfold bxorK
  rw [BitVec.toNat_xor, ofInt_nat a ha, ofInt_nat b hb, wrap_un hk, ← two_pow_cast]
  rw [← Int.natCast_emod, Nat.mod_eq_of_lt (Nat.xor_lt_two_pow ha hb)]
theorem band_nn {k : IntKind} (hk : k.signed = false) (a b : Int) : 0 ≤ bandK k a b := by
  unfold bandK
  rw [wrap_un hk]
  exact Int.emod_nonneg _ (Int.ne_of_gt (Int.pow_pos (by decide)))
theorem band_le {k : IntKind} (hk : k.signed = false) (a : Int) {b : Int} (h0 : 0 ≤ b) : bandK k a b ≤ b := by
  unfold bandK
  rw [wrap_un hk, ← two_pow_cast, ← Int.natCast_emod, BitVec.toNat_and]
  refine Int.le_trans (Int.ofNat_le.2 (Nat.mod_le _ _)) (Int.le_trans (Int.ofNat_le.2 Nat.and_le_right) ?_)
  obtain ⟨y, rfl⟩ := Int.eq_ofNat_of_zero_le h0
  rw [BitVec.ofInt_natCast, BitVec.toNat_ofNat]
  exact Int.ofNat_le.2 (Nat.mod_le _ _)
theorem tmod_b (a : Int) {m : Int} (hm : 0 < m) : -m < a.tmod m ∧ a.tmod m < m := ⟨Int.lt_tmod_of_pos a hm, Int.tmod_lt_of_pos a hm⟩
/-- Right, by so many places. -/
theorem shr_eq {k : IntKind} (a : Int) {n : Int} (h0 : 0 ≤ n) (h1 : n ≤ k.bits) : shrK k a n = a / 2 ^ n.toNat := by
  unfold shrK
  rw [show min n.toNat k.bits = n.toNat by omega, Int.fdiv_eq_ediv_of_nonneg _ (Int.le_of_lt (Int.pow_pos (by decide)))]
/-- Left, by so many places. -/
theorem shl_eq {k : IntKind} (hk : k.signed = false) (a : Int) {n : Int} (h0 : 0 ≤ n) (h1 : n ≤ k.bits) : shlK k a n = (a * 2 ^ n.toNat) % 2 ^ k.bits := by
  unfold shlK
  rw [show min n.toNat k.bits = n.toNat by omega, wrap_un hk]
/-- The low places. -/
theorem band_low {k : IntKind} (hk : k.signed = false) {a : Int} (h0 : 0 ≤ a) (h1 : a < 2 ^ k.bits) {m : Int} {n : Nat} (hn : n ≤ k.bits) (hm : m = 2 ^ n - 1) : bandK k a m = a % 2 ^ n := by
  obtain ⟨x, rfl⟩ := Int.eq_ofNat_of_zero_le h0
  have hp : 0 < 2 ^ n := Nat.two_pow_pos n
  have hx : x < 2 ^ k.bits := by rw [← two_pow_cast] at h1; omega
  have hle : 2 ^ n ≤ 2 ^ k.bits := Nat.pow_le_pow_right (by decide) hn
  have e : m = ((2 ^ n - 1 : Nat) : Int) := by rw [hm, Int.natCast_sub hp, two_pow_cast]; rfl
  rw [e, band_nat hk x (2 ^ n - 1) hx (by omega), Nat.and_two_pow_sub_one_eq_mod, ← two_pow_cast, Int.natCast_emod]
/-- What is above the low places. -/
theorem bclr_low {k : IntKind} (hk : k.signed = false) {a : Int} (h0 : 0 ≤ a) (h1 : a < 2 ^ k.bits) {m : Int} {n : Nat} (hn : n ≤ k.bits) (hm : m = 2 ^ n - 1) : bclrK k a m = a - a % 2 ^ n := by
  obtain ⟨x, rfl⟩ := Int.eq_ofNat_of_zero_le h0
  have hp : 0 < 2 ^ n := Nat.two_pow_pos n
  have hx : x < 2 ^ k.bits := by rw [← two_pow_cast] at h1; omega
  have hle : 2 ^ n ≤ 2 ^ k.bits := Nat.pow_le_pow_right (by decide) hn
  have e : m = ((2 ^ n - 1 : Nat) : Int) := by rw [hm, Int.natCast_sub hp, two_pow_cast]; rfl
  have key : x &&& (2 ^ k.bits - 1 - (2 ^ n - 1)) = x - x % 2 ^ n := by
    apply Nat.eq_of_testBit_eq
    intro i
    have h3 : 2 ^ k.bits - 1 - (2 ^ n - 1) = 2 ^ k.bits - 2 ^ n := by omega
    rw [h3, Nat.testBit_and]
    have h4 : x - x % 2 ^ n = 2 ^ n * (x / 2 ^ n) := by have := Nat.div_add_mod x (2 ^ n); omega
    have h5 : 2 ^ k.bits - 2 ^ n = 2 ^ n * (2 ^ (k.bits - n) - 1) := by
      rw [Nat.mul_sub, Nat.mul_one, ← Nat.pow_add, show n + (k.bits - n) = k.bits by omega]
    rw [h4, h5, Nat.testBit_two_pow_mul, Nat.testBit_two_pow_mul]
    by_cases hi : n ≤ i
    · simp only [hi, decide_true, Bool.true_and, Nat.testBit_two_pow_sub_one]
      rw [Nat.testBit_div_two_pow, show i - n + n = i by omega]
      by_cases hb : i - n < k.bits - n
      · simp [hb]
      · have : x.testBit i = false := Nat.testBit_lt_two_pow (Nat.lt_of_lt_of_le hx (Nat.pow_le_pow_right (by decide) (by omega)))
        simp [this]
    · simp [hi]
  unfold bclrK
  rw [BitVec.toNat_and, BitVec.toNat_not, ofInt_nat x hx, e, ofInt_nat (2 ^ n - 1) (by omega), key, wrap_un hk, ← two_pow_cast, ← Int.natCast_emod, ← two_pow_cast, ← Int.natCast_emod]
  rw [Nat.mod_eq_of_lt (Nat.lt_of_le_of_lt (Nat.sub_le _ _) hx), Int.natCast_sub (Nat.mod_le _ _)]
/-- Numbers that share no place. -/
theorem bor_add {k : IntKind} (hk : k.signed = false) {a b : Int} {n : Nat} (h0 : 0 ≤ a) (h1 : a < 2 ^ n) (h2 : 0 ≤ b) (h3 : b * 2 ^ n < 2 ^ k.bits) (hn : n ≤ k.bits) : borK k a (b * 2 ^ n) = a + b * 2 ^ n := by
  obtain ⟨x, rfl⟩ := Int.eq_ofNat_of_zero_le h0
  obtain ⟨y, rfl⟩ := Int.eq_ofNat_of_zero_le h2
  rw [← two_pow_cast] at h1
  rw [← two_pow_cast, ← two_pow_cast, ← Int.natCast_mul] at h3
  have hle : 2 ^ n ≤ 2 ^ k.bits := Nat.pow_le_pow_right (by decide) hn
  have hx : x < 2 ^ n := by omega
  rw [← two_pow_cast, ← Int.natCast_mul, bor_nat hk x (y * 2 ^ n) (by omega) (by omega), Nat.or_comm, Nat.mul_comm, ← Nat.two_pow_add_eq_or_of_lt hx, Int.natCast_add, Int.add_comm]

/-! Numbers in bytes, the low one first. -/
def num8 : Nat → Int → List Int
  | 0, _ => []
  | n + 1, v => v % 256 :: num8 n (v / 256)
def val8 : List Int → Int
  | [] => 0
  | b :: l => b + 256 * val8 l
theorem num8_len : ∀ (n : Nat) (v : Int), (num8 n v).length = n
  | 0, _ => rfl
  | n + 1, v => by simp [num8, num8_len n]
def Bytes (b : List Int) : Prop := ∀ x ∈ b, 0 ≤ x ∧ x < 256
theorem num8_bytes : ∀ (n : Nat) (v : Int), Bytes (num8 n v)
  | 0, _ => by simp [num8, Bytes]
  | n + 1, v => by
    intro x hx
    rcases List.mem_cons.1 hx with rfl | h
    · omega
    · exact num8_bytes n _ x h
theorem emod_step (v m : Int) (hm : 0 < m) : v % 256 + 256 * (v / 256 % m) = v % (256 * m) := by
  have h1 := Int.emod_nonneg (v / 256) (show m ≠ 0 by omega)
  have h2 := Int.emod_lt_of_pos (v / 256) hm
  have e : v = (v % 256 + 256 * (v / 256 % m)) + 256 * m * (v / 256 / m) := by
    have h3 := Int.mul_ediv_add_emod (v / 256) m
    rw [Int.mul_assoc]
    omega
  have h4 : (v % 256 + 256 * (v / 256 % m)) % (256 * m) = v % 256 + 256 * (v / 256 % m) := Int.emod_eq_of_lt (by omega) (by omega)
  rw [e, Int.add_mul_emod_self_left, ← e, h4]
theorem val8_num8 : ∀ (n : Nat) (v : Int), val8 (num8 n v) = v % 256 ^ n
  | 0, v => by simp [num8, val8]
  | n + 1, v => by
    rw [num8, val8, val8_num8 n, Int.pow_succ, Int.mul_comm (256 ^ n) 256, emod_step v (256 ^ n) (Int.pow_pos (by decide))]
theorem val8_bound : ∀ (b : List Int), Bytes b → 0 ≤ val8 b ∧ val8 b < 256 ^ b.length
  | [], _ => by simp [val8]
  | x :: l, h => by
    have h1 := val8_bound l fun y hy => h y (by simp [hy])
    have h2 := h x (by simp)
    rw [val8, List.length_cons, Int.pow_succ]
    omega
theorem num8_val8 : ∀ (b : List Int), Bytes b → num8 b.length (val8 b) = b
  | [], _ => rfl
  | x :: l, h => by
    have h2 := h x (by simp)
    rw [val8, List.length_cons, num8, show (x + 256 * val8 l) % 256 = x by omega, show (x + 256 * val8 l) / 256 = val8 l by omega, num8_val8 l fun y hy => h y (by simp [hy])]
theorem val8_append : ∀ (a b : List Int), val8 (a ++ b) = val8 a + 256 ^ a.length * val8 b
  | [], b => by simp [val8]
  | x :: l, b => by
    rw [List.cons_append, val8, val8, val8_append l b, List.length_cons, Int.pow_succ, Int.mul_add, Int.mul_comm (256 ^ l.length) 256, Int.mul_assoc]; omega
theorem Bytes.take {b : List Int} (h : Bytes b) (n : Nat) : Bytes (b.take n) := fun x hx => h x (List.mem_of_mem_take hx)
theorem Bytes.drop {b : List Int} (h : Bytes b) (n : Nat) : Bytes (b.drop n) := fun x hx => h x (List.mem_of_mem_drop hx)
theorem Bytes.getD {b : List Int} (h : Bytes b) (n : Nat) : 0 ≤ b.getD n 0 ∧ b.getD n 0 < 256 := by
  by_cases hn : n < b.length
  · exact h _ (by simp [List.getD, List.getElem?_eq_getElem hn])
  · simp [List.getD, List.getElem?_eq_none (Nat.le_of_not_lt hn)]
end Go.Aw
