import Derived.Test.YtppceadhdckpmaaDoorOctA
import Derived.Test.YtppceadhdckpmaaDoorW9
import Derived.Test.YtppceadhdckpmaaDoorW11
import Derived.Test.YtppceadhdckpmaaDoorW17
import Derived.Test.YtppceadhdckpmaaDoorOp
import Derived.Test.YtppceadhdckpmaaDoorW24
import Derived.Test.YtppceadhdckpmaaDoorW27
section
/- The plain laws of addresses: checks (own work). -/
set_option linter.unusedVariables false
namespace Go.Aw.W
open Go Go.Aw Go.Proofs
def HasA (a : Address) : Prop := 0 ≤ a.Bits ∧ a.Bits < 18446744073709551616
theorem mask22 : aMask 22 = 4194303 := by decide
theorem mask46 : aMask 46 = 70368744177663 := by decide
theorem bits_shr (n : Int) (h0 : 0 ≤ n) {k : Int} {p : Int} (k0 : 0 ≤ k) (k1 : k ≤ 64) (hp : (2 : Int) ^ k.toNat = p) : shrK IntKind.u64 n k = n / p := by
  rw [shr_eq n k0 (by simp only [IntKind.bits]; omega), hp]
theorem aCheck_eq (a : Address) (h : HasA a) : aCheck a = r8Check a := by
  obtain ⟨h0, h1⟩ := h
  unfold aCheck r8Check aPart
  rw [bits_shr a.Bits h0 (k := 48) (p := 281474976710656) (by decide) (by decide) (by decide), bits_shr a.Bits h0 (k := 46) (p := 70368744177664) (by decide) (by decide) (by decide), bits_shr a.Bits h0 (k := 24) (p := 16777216) (by decide) (by decide) (by decide)]
  rw [mask22, mask46, Int.tdiv_eq_ediv_of_nonneg h0, Int.tmod_eq_emod_of_nonneg h0, Int.tdiv_eq_ediv_of_nonneg (by omega), wu64 (a.Bits / 70368744177664) (by omega) (by omega), wu64 (a.Bits % 70368744177664 / 16777216) (by omega) (by omega)]
  rw [band_low (n := 22) rfl (by omega) (by rw [p64]; omega) (by decide) (by decide), band_low (n := 46) rfl (by omega) (by rw [p64]; omega) (by decide) (by decide)]
  rw [show (2 : Int) ^ 22 = 4194304 by decide, show (2 : Int) ^ 46 = 70368744177664 by decide]
  have e1 : a.Bits / 16777216 % 4194304 = a.Bits % 70368744177664 / 16777216 := by omega
  rw [e1]
  by_cases k0 : a.Kind ≤ 0
  · have k1 : a.Kind < 1 := by omega
    simp [k0, k1]
  · by_cases k5 : 5 ≤ a.Kind
    · have k4 : 4 < a.Kind := by omega
      simp [k5, k4]
    · have k1 : ¬ a.Kind < 1 := by omega
      have k4 : ¬ 4 < a.Kind := by omega
      simp only [k0, k5, k1, k4, decide_false, cond_false]
      by_cases hb : (281474976710656 : Int) ≤ a.Bits
      · have h3 : (a.Bits / 281474976710656 != 0) = true := by simp only [bne_iff_ne, ne_eq]; omega
        rw [h3, decide_eq_true hb]; rfl
      · have h3 : (a.Bits / 281474976710656 != 0) = false := by simp only [bne_eq_false_iff_eq]; omega
        rw [h3, decide_eq_false hb, cond_false, cond_false]
        rcases (by omega : a.Kind = 1 ∨ a.Kind = 2 ∨ a.Kind = 3 ∨ a.Kind = 4) with e | e | e | e
        · simp [e]
        · simp [e, r8prefix, prefixes, mask46]
        · simp [e, r8prefix, prefixes, mask22]
        · simp [e, r8prefix, prefixes, mask46]
end Go.Aw.W
end
section
/- The plain laws of the block cipher, tags, derived keys, resolvable addresses (own work). -/
set_option linter.unusedVariables false
set_option maxRecDepth 4000
namespace Go.Aw.W
open Go Go.Aw Go.Proofs
attribute [local irreducible] kRound r5Round r5Low
def U64 (n : Int) : Prop := 0 ≤ n ∧ n < 18446744073709551616
def U32 (n : Int) : Prop := 0 ≤ n ∧ n < 4294967296
theorem u64w (n : Int) : U64 (IntKind.wrap .u64 n) := by have := wu64s n; unfold U64; omega
theorem u32w (n : Int) : U32 (IntKind.wrap .u32 n) := by have := wu32s n; unfold U32; omega
theorem bor_comm (k : IntKind) (a b : Int) : borK k a b = borK k b a := by unfold borK; rw [BitVec.or_comm]
theorem rot32 (x n : Int) (h0 : 0 ≤ n) (h1 : n < 32) : rotl32 x n = r5Turn x n := by
  unfold rotl32 r5Turn
  rw [wu64 n h0 (by omega), band_low (n := 5) rfl h0 (by rw [p64]; omega) (by decide) (by decide), show (2 : Int) ^ 5 = 32 by decide, Int.emod_eq_of_lt h0 h1, wu64 _ (by omega) (by omega), wi64 _ (by omega) (by omega)]
theorem rot64 (x n : Int) (h0 : 0 ≤ n) (h1 : n < 64) : rotl64 x n = borK .u64 (shlK .u64 x n) (shrK .u64 x (IntKind.wrap .i64 (64 - n))) := by
  unfold rotl64
  rw [wu64 n h0 (by omega), band_low (n := 6) rfl h0 (by rw [p64]; omega) (by decide) (by decide), show (2 : Int) ^ 6 = 64 by decide, Int.emod_eq_of_lt h0 h1, wu64 _ (by omega) (by omega), wi64 _ (by omega) (by omega)]
theorem low32 (x : Int) (h : U64 x) : sLow x 32 = x % 4294967296 := by
  unfold sLow
  rw [show decide ((32 : Int) ≤ 0) = false by decide, show decide ((64 : Int) ≤ 32) = false by decide, cond_false, cond_false, show IntKind.wrap .u64 (shlK .u64 1 32 - 1) = 4294967295 by decide]
  exact band_low (n := 32) rfl h.1 (by rw [p64]; exact h.2) (by decide) (by decide)
theorem turn_eq (i : Int) (h0 : 0 ≤ i) (h1 : i < 8) : Int.tmod (IntKind.wrap .i64 ((11 : Int) * Int.tmod i 64)) 64 = 11 * i % 64 ∧ Int.tmod (IntKind.wrap .i64 (IntKind.wrap .i64 (Int.tmod i 64 + 64) * 11)) 64 = 11 * i % 64 := by
  rw [Int.tmod_eq_emod_of_nonneg h0, Int.emod_eq_of_lt h0 (by omega), wi64 (11 * i) (by omega) (by omega), wi64 (i + 64) (by omega) (by omega), wi64 ((i + 64) * 11) (by omega) (by omega), Int.tmod_eq_emod_of_nonneg (by omega), Int.tmod_eq_emod_of_nonneg (by omega)]
  omega
end Go.Aw.W
namespace Go.Aw.W
open Go Go.Aw Go.Proofs
theorem low_eq (k i : Int) (hk : U64 k) (h0 : 0 ≤ i) (h1 : i < 8) : IntKind.wrap .u32 (sLow (rotl64 k (Int.tmod (IntKind.wrap .i64 ((11 : Int) * Int.tmod i 64)) 64)) 32) = r5Low k i := by
  obtain ⟨e1, e2⟩ := turn_eq i h0 h1
  unfold r5Low
  rw [e1, e2]
  have ht0 : 0 ≤ 11 * i % 64 := by omega
  have ht1 : 11 * i % 64 < 64 := by omega
  generalize 11 * i % 64 = t at *
  by_cases hz : 0 < t
  · rw [decide_eq_true hz, cond_true, rot64 k t ht0 ht1]
    have hR : U64 (borK .u64 (shlK .u64 k t) (shrK .u64 k (IntKind.wrap .i64 (64 - t)))) := u64w _
    rw [low32 _ hR, Int.tmod_eq_emod_of_nonneg hR.1]
  · have ht : t = 0 := by omega
    subst ht
    rw [show decide ((0 : Int) < 0) = false by decide, cond_false]
    have hr : rotl64 k 0 = k := by
      rw [rot64 k 0 (by decide) (by decide), show IntKind.wrap .i64 (64 - 0) = 64 by decide, shl_eq rfl k (by decide) (by decide), shr_eq k (by decide) (by decide), p64]
      have e : k / 2 ^ (64 : Int).toNat = 0 := by
        rw [show (2 : Int) ^ (64 : Int).toNat = 18446744073709551616 by decide]; exact Int.ediv_eq_zero_of_lt hk.1 hk.2
      have e2 : k * 2 ^ (0 : Int).toNat % 18446744073709551616 = k := by
        rw [show (2 : Int) ^ (0 : Int).toNat = 1 by decide, Int.mul_one]; exact Int.emod_eq_of_lt hk.1 hk.2
      rw [e, e2]
      have := bor_add (k := .u64) rfl (a := k) (b := 0) (n := 64) hk.1 (by rw [show (2 : Int) ^ 64 = 18446744073709551616 by decide]; exact hk.2) (by decide) (by decide) (by decide)
      simpa using this
    rw [hr, low32 k hk, Int.tmod_eq_emod_of_nonneg hk.1]
theorem round_eq (k i h : Int) (hk : U64 k) (h0 : 0 ≤ i) (h1 : i < 8) : kRound k i h = r5Round k i h := by
  unfold kRound r5Round
  rw [low_eq k i hk h0 h1, rot32 _ 7 (by decide) (by decide), rot32 _ 16 (by decide) (by decide)]
theorem mix_go (k p q : Int) (hk : U64 k) : ∀ (n : Nat) (i a b : Int), 0 ≤ i → i ≤ 8 → (8 - i).toNat < n → U32 a → U32 b → kMix.go k p n i a b = r5Mix.go k q n i a b
  | 0, i, a, b, h0, h1, h2, ha, hb => by omega
  | n + 1, i, a, b, h0, h1, h2, ha, hb => by
    unfold kMix.go r5Mix.go
    by_cases hi : i < 8
    · simp only [hi, decide_true, cond_true]
      rw [wi64 (i + (1 : Int)) (by omega) (by omega), round_eq k i b hk h0 hi]
      exact mix_go k p q hk n (i + 1) b _ (by omega) (by omega) (by omega) hb (u32w _)
    · simp only [hi, decide_false, cond_false]
      obtain ⟨a0, a1⟩ := ha
      obtain ⟨b0, b1⟩ := hb
      rw [wu64 a a0 (by omega), wu64 b b0 (by omega), bor_comm, shl_eq rfl a (by decide) (by decide), p64, show (2 : Int) ^ (32 : Int).toNat = 4294967296 by decide, Int.emod_eq_of_lt (by omega) (by omega)]
      have := bor_add (k := .u64) rfl (a := b) (b := a) (n := 32) b0 (by rw [show (2 : Int) ^ 32 = 4294967296 by decide]; exact b1) a0 (by rw [p64, show (2 : Int) ^ 32 = 4294967296 by decide]; omega) (by decide)
      rw [show (2 : Int) ^ 32 = 4294967296 by decide] at this
      rw [this, wu64 (a * 4294967296) (by omega) (by omega), wu64 _ (by omega) (by omega)]
      omega
theorem mix_eq (k x : Int) (hk : U64 k) (hx : U64 x) : kMix k x = r5Mix k x := by
  unfold kMix r5Mix
  obtain ⟨x0, x1⟩ := hx
  rw [shr_eq x (by decide) (by decide), show (2 : Int) ^ (32 : Int).toNat = 4294967296 by decide, low32 x ⟨x0, x1⟩, Int.tdiv_eq_ediv_of_nonneg x0, Int.tmod_eq_emod_of_nonneg x0, wu64 (x / 4294967296) (by omega) (by omega)]
  exact mix_go k x x hk _ _ _ _ (by decide) (by decide) (by decide) (u32w _) (u32w _)
theorem mix_range_go (k q : Int) : ∀ (n : Nat) (i a b : Int), U64 (r5Mix.go k q n i a b)
  | 0, i, a, b => by unfold r5Mix.go; exact ⟨by decide, by decide⟩
  | n + 1, i, a, b => by
    unfold r5Mix.go
    cases decide (i < 8)
    · exact u64w _
    · exact mix_range_go k q n _ _ _
theorem mix_range (k x : Int) : U64 (r5Mix k x) := mix_range_go k x _ _ _ _
attribute [local irreducible] kMix r5Mix
theorem grpN_val (c : List Int) (hc : Bytes c) : ∀ i : Nat, i ≤ c.length → i ≤ 8 → grpN c i = val8 (c.take i)
  | 0, _, _ => by simp [grpN, val8]
  | i + 1, h0, h1 => by
    rw [grpN, grpN_val c hc i (by omega) (by omega)]
    have := byte_or c hc (i : Int) (by omega) (by omega) (by omega)
    rwa [show ((i : Int)).toNat = i by omega, show ((i : Int) + 1).toNat = i + 1 by omega] at this
theorem grpJ_val (b : List Int) (hb : Bytes b) (j : Nat) (hj : 8 * j < b.length) : grpJ b j = val8 ((b.drop (8 * j)).take (min 8 (b.length - 8 * j))) := by
  unfold grpJ
  exact grpN_val _ (hb.drop _) _ (by rw [List.length_drop]; omega) (by omega)
theorem tag_go (k : Int) (b : List Int) (hk : U64 k) (hb : Bytes b) (hl : b.length ≤ 4611686018427387904) : ∀ (n j : Nat) (y : Int), j ≤ (b.length + 7) / 8 → b.length + 8 - 8 * j < n → U64 y →
    r6Tag.go k b n ((8 * j : Nat) : Int) y = ((List.range' j ((b.length + 7) / 8 - j)).map (grpJ b)).foldl (fun x g => kMix k (bxorK .u64 x g)) y
  | 0, j, y, h1, h2, hy => by omega
  | n + 1, j, y, h1, h2, hy => by
    unfold r6Tag.go
    by_cases hj : 8 * j < b.length
    · have hj' : ((8 * j : Nat) : Int) < (b.length : Int) := by omega
      rw [decide_eq_true hj', cond_true, wi64 (((8 * j : Nat) : Int) + 8) (by omega) (by omega), minI_eq]
      obtain ⟨m, hm⟩ : ∃ m, (b.length + 7) / 8 - j = m + 1 := ⟨(b.length + 7) / 8 - j - 1, by omega⟩
      rw [hm, List.range'_succ, List.map_cons, List.foldl_cons]
      have hm2 : m = (b.length + 7) / 8 - (j + 1) := by omega
      have e1 : List.drop ((8 * j : Nat) : Int).toNat (List.take (min (((8 * j : Nat) : Int) + 8) (b.length : Int)).toNat b) = (b.drop (8 * j)).take (min 8 (b.length - 8 * j)) := by
        rw [List.drop_take]
        congr 1
        omega
      rw [e1, r2Value_eq _ ((hb.drop _).take _) (by rw [List.length_take]; omega), ← grpJ_val b hb j hj, hm2, ← mix_eq k (bxorK .u64 y (grpJ b j)) hk (u64w _)]
      have e2 : (((8 * j : Nat) : Int) + 8) = ((8 * (j + 1) : Nat) : Int) := by omega
      rw [e2]
      exact tag_go k b hk hb hl n (j + 1) _ (by omega) (by omega) (by rw [mix_eq k (bxorK .u64 y (grpJ b j)) hk (u64w _)]; exact mix_range _ _)
    · have hj' : ¬ ((8 * j : Nat) : Int) < (b.length : Int) := by omega
      rw [decide_eq_false hj', cond_false, show (b.length + 7) / 8 - j = 0 by omega]
      rfl
theorem tag_eq (k : Int) (b : List Int) (hk : U64 k) (hb : Bytes b) (hl : b.length ≤ 4611686018427387904) : kTag k b = r6Tag k b := by
  unfold kTag r6Tag tagF grps
  have hx : U64 (b.length : Int) := ⟨by omega, by omega⟩
  have := tag_go k b hk hb hl (b.length + 9) 0 (r5Mix k (b.length : Int)) (by omega) (by omega) (mix_range _ _)
  rw [wu64 _ hx.1 hx.2]
  rw [show ((8 * 0 : Nat) : Int) = 0 by decide, Nat.sub_zero] at this
  rw [this, List.range_eq_range', mix_eq k _ hk hx]
theorem tag_range_go (k : Int) (b : List Int) : ∀ (n : Nat) (i y : Int), U64 y → U64 (r6Tag.go k b n i y)
  | 0, i, y, h => by unfold r6Tag.go; exact ⟨by decide, by decide⟩
  | n + 1, i, y, h => by
    unfold r6Tag.go
    cases decide (i < (b.length : Int))
    · exact h
    · exact tag_range_go k b n _ _ (mix_range _ _)
theorem tag_range (k : Int) (b : List Int) : U64 (r6Tag k b) := tag_range_go k b _ _ _ (mix_range _ _)
attribute [local irreducible] r6Tag kTag
theorem derive_step (k : Int) (label : ByteArray) (parts : List Int) (n : Nat) (i : Int) (out : List Int) : r6Derive.go k label parts (n + 1) i out = cond (decide (i < (parts.length : Int))) (r6Derive.go k label parts n (IntKind.wrap IntKind.i64 (i + (1 : Int))) (out ++ r2Num (8 : Int) (List.getD parts (Int.toNat i) (0 : Int)))) (r6Tag k out) := rfl
theorem derive_go (k : Int) (label : ByteArray) (parts : List Int) (hl : parts.length ≤ 1099511627776) (hp : ∀ v ∈ parts, U64 v) (n : Nat) : ∀ (i : Int) (out : List Int), 0 ≤ i → i ≤ parts.length → (parts.length - i).toNat < n → r6Derive.go k label parts n i out = r6Tag k (out ++ (parts.drop i.toNat).flatMap (num8 8)) := by
  induction n with
  | zero => intro i out h0 h1 h2; omega
  | succ n ih =>
    intro i out h0 h1 h2
    rw [derive_step]
    by_cases hi : i < parts.length
    · rw [decide_eq_true hi, cond_true]
      have hlt : i.toNat < parts.length := by omega
      have hv : U64 (parts.getD i.toNat 0) := by
        have e : parts.getD i.toNat 0 = parts[i.toNat] := by simp [List.getD, List.getElem?_eq_getElem hlt]
        rw [e]; exact hp _ (List.getElem_mem _)
      rw [wi64 (i + (1 : Int)) (by omega) (by omega), ih (i + 1) _ (by omega) (by omega) (by omega), r2Num_eq 8 _ (by decide) hv.1 hv.2, getD_drop parts 0 i h0 hi, List.flatMap_cons, List.append_assoc, show (8 : Int).toNat = 8 by decide]
    · rw [decide_eq_false hi, cond_false, List.drop_of_length_le (by omega), List.flatMap_nil, List.append_nil]
theorem bytesI_bytes (s : ByteArray) : Bytes (bytesI s) := by
  intro x hx
  obtain ⟨b, _, rfl⟩ := List.mem_map.1 hx
  have := b.toNat_lt
  omega
theorem flat_bytes (parts : List Int) : Bytes (parts.flatMap (num8 8)) := by
  intro x hx
  obtain ⟨v, _, hv⟩ := List.mem_flatMap.1 hx
  exact num8_bytes _ _ x hv
theorem flat_len (parts : List Int) : (parts.flatMap (num8 8)).length = 8 * parts.length := by
  induction parts with
  | nil => rfl
  | cons a l ih => rw [List.flatMap_cons, List.length_append, num8_len, ih, List.length_cons]; omega
theorem derive_eq (k : Int) (label : ByteArray) (parts : List Int) (hk : U64 k) (hs : (bytesI label).length ≤ 1099511627776) (hl : parts.length ≤ 1099511627776) (hp : ∀ v ∈ parts, U64 v) : pDerive k label parts = r6Derive k label parts := by
  unfold pDerive r6Derive
  rw [derive_go k label parts hl hp _ _ _ (by omega) (by omega) (by omega), oJoin_eq _ (by simp), mBytes_eq parts hl hp]
  have e : [bytesI label, [(0 : Int)], parts.flatMap (num8 8)].flatten = bytesI label ++ [0] ++ (parts.drop (0 : Int).toNat).flatMap (num8 8) := by simp
  rw [e]
  refine tag_eq k _ hk ?_ ?_
  · intro x hx
    simp only [List.mem_append, List.mem_singleton] at hx
    rcases hx with (hx | rfl) | hx
    · exact bytesI_bytes label x hx
    · exact ⟨by decide, by decide⟩
    · exact flat_bytes _ x hx
  · simp only [List.length_append, List.length_singleton, flat_len]
    simp
    omega
theorem derive_range_go (k : Int) (label : ByteArray) (parts : List Int) (n : Nat) : ∀ (i : Int) (out : List Int), U64 (r6Derive.go k label parts n i out) := by
  induction n with
  | zero => intro i out; show U64 0; exact ⟨by decide, by decide⟩
  | succ n ih =>
    intro i out
    rw [derive_step]
    by_cases hi : i < (parts.length : Int)
    · rw [decide_eq_true hi, cond_true]; exact ih _ _
    · rw [decide_eq_false hi, cond_false]; exact tag_range k out
theorem derive_range (k : Int) (label : ByteArray) (parts : List Int) : U64 (r6Derive k label parts) := derive_range_go k label parts _ _ _
attribute [local irreducible] r6Derive pDerive
theorem hash_eq (k n : Int) (hk : U64 k) (hn : U64 n) : pHash k n = r9Hash k n := by
  unfold pHash r9Hash
  rw [derive_eq k _ [n] hk (by decide) (by simp) (by intro v hv; simp only [List.mem_singleton] at hv; subst hv; exact hn)]
  have := derive_range k { data := #[(114 : UInt8), (112 : UInt8), (97 : UInt8)] : ByteArray } [n]
  rw [band_low (n := 24) rfl this.1 (by rw [p64]; exact this.2) (by decide) (by decide), Int.tmod_eq_emod_of_nonneg this.1]
  rfl
theorem resolves_eq (k : Int) (a : Address) (hk : U64 k) (ha : HasA a) : pResolves k a = r9Resolves k a := by
  unfold pResolves r9Resolves
  have h0 := ha.1
  have h1 := ha.2
  rw [aCheck_eq a ha, band_low (n := 24) rfl h0 (by rw [p64]; exact h1) (by decide) (by decide), shr_eq a.Bits (by decide) (by decide), Int.tmod_eq_emod_of_nonneg h0, Int.tdiv_eq_ediv_of_nonneg h0]
  rw [show (2 : Int) ^ (24 : Int).toNat = 16777216 by decide, show (2 : Int) ^ 24 = 16777216 by decide, wu64 (a.Bits / 16777216) (by omega) (by omega)]
  rw [band_low (n := 22) rfl (by omega) (by rw [p64]; omega) (by decide) (by decide), Int.tmod_eq_emod_of_nonneg (by omega), show (2 : Int) ^ 22 = 4194304 by decide, hash_eq k _ hk ⟨by omega, by omega⟩]
theorem idx_go (list : List Identity) (a : Address) (ha : HasA a) (hi : ∀ x ∈ list, U64 x.IRK) : ∀ (n : Nat) (i : Int), 0 ≤ i → i ≤ list.length → (list.length - i).toNat < n → list.length ≤ 4611686018427387904 → fIdx.go list a n i = r9Find.go list a n i
  | 0, i, h0, h1, h2, hl => by omega
  | n + 1, i, h0, h1, h2, hl => by
    unfold fIdx.go r9Find.go
    by_cases h : i < list.length
    · have hlt : i.toNat < list.length := by omega
      have hv : U64 (list.getD i.toNat Identity.zero).IRK := by
        have e : list.getD i.toNat Identity.zero = list[i.toNat] := by simp [List.getD, List.getElem?_eq_getElem hlt]
        rw [e]; exact hi _ (List.getElem_mem _)
      simp only [h, decide_true, cond_true]
      rw [resolves_eq _ a hv ha, wi64 (i + (1 : Int)) (by omega) (by omega), idx_go list a ha hi n (i + 1) (by omega) (by omega) (by omega) hl]
    · simp only [h, decide_false, cond_false]
theorem find_eq (list : List Identity) (a : Address) (ha : HasA a) (hi : ∀ x ∈ list, U64 x.IRK) (hl : list.length ≤ 4611686018427387904) : pFind list a = r9Find list a := by
  unfold pFind r9Find fIdx
  rw [aCheck_eq a ha, idx_go list a ha hi _ _ (by omega) (by omega) (by omega) hl]
end Go.Aw.W
end
section
section
/- The count of bits: what math/bits.OnesCount64 computes is the number of bits that are set. Plain Lean. -/
set_option linter.unusedVariables false
namespace Go.Aw.W
open Go Go.Aw Go.Proofs
def B (f : Nat → Nat) : Nat → Nat → Nat
  | 0, _ => 0
  | n + 1, x => f (x % 256) + 256 * B f n (x / 256)
theorem B_succ (f : Nat → Nat) (n x : Nat) : B f (n + 1) x = f (x % 256) + 256 * B f n (x / 256) := rfl
def rep (c : Nat) : Nat → Nat
  | 0 => 0
  | n + 1 => c + 256 * rep c n
theorem land_byte (x M : Nat) : x &&& M = (x % 256 &&& M % 256) + 256 * (x / 256 &&& M / 256) := by
  have h1 : (x &&& M) % 2 ^ 8 = x % 2 ^ 8 &&& M % 2 ^ 8 := Nat.and_mod_two_pow
  have h2 : (x &&& M) / 2 ^ 8 = x / 2 ^ 8 &&& M / 2 ^ 8 := Nat.and_div_two_pow
  rw [← h1, ← h2]
  exact (Nat.mod_add_div (x &&& M) 256).symm
theorem rep_mod {c : Nat} (hc : c < 256) (n : Nat) : rep c (n + 1) % 256 = c := by unfold rep; omega
theorem rep_div {c : Nat} (hc : c < 256) (n : Nat) : rep c (n + 1) / 256 = rep c n := by
  conv => lhs; unfold rep
  omega
theorem tab1 : ∀ b : Fin 256, ∀ t : Fin 2, (b.val / 2 + 128 * t.val) &&& 85 = b.val / 2 &&& 85 := by decide +kernel
theorem tab2 : ∀ b : Fin 256, ∀ t : Fin 4, (b.val / 4 + 64 * t.val) &&& 51 = b.val / 4 &&& 51 := by decide +kernel
def t1 (b : Nat) : Nat := (b / 2 &&& 85) + (b &&& 85)
def t2 (b : Nat) : Nat := (b / 4 &&& 51) + (b &&& 51)
theorem n1 : ∀ n x, (x / 2 &&& rep 85 n) + (x &&& rep 85 n) = B t1 n x
  | 0, x => by simp [rep, B]
  | n + 1, x => by
    rw [land_byte (x / 2), land_byte x, rep_mod (by omega), rep_div (by omega), B, ← n1 n (x / 256)]
    have e : x / 2 % 256 &&& 85 = (x % 256) / 2 &&& 85 := by
      rw [show x / 2 % 256 = (x % 256) / 2 + 128 * ((x / 256) % 2) by omega]
      exact tab1 ⟨x % 256, by omega⟩ ⟨(x / 256) % 2, by omega⟩
    have e2 : x / 2 / 256 = x / 256 / 2 := by omega
    rw [e, e2]
    unfold t1
    generalize x % 256 / 2 &&& 85 = p
    generalize x % 256 &&& 85 = q
    generalize x / 256 / 2 &&& rep 85 n = r
    generalize x / 256 &&& rep 85 n = s
    omega
theorem n2 : ∀ n x, (x / 4 &&& rep 51 n) + (x &&& rep 51 n) = B t2 n x
  | 0, x => by simp [rep, B]
  | n + 1, x => by
    rw [land_byte (x / 4), land_byte x, rep_mod (by omega), rep_div (by omega), B, ← n2 n (x / 256)]
    have e : x / 4 % 256 &&& 51 = (x % 256) / 4 &&& 51 := by
      rw [show x / 4 % 256 = (x % 256) / 4 + 64 * ((x / 256) % 4) by omega]
      exact tab2 ⟨x % 256, by omega⟩ ⟨(x / 256) % 4, by omega⟩
    have e2 : x / 4 / 256 = x / 256 / 4 := by omega
    rw [e, e2]
    unfold t2
    generalize x % 256 / 4 &&& 51 = p
    generalize x % 256 &&& 51 = q
    generalize x / 256 / 4 &&& rep 51 n = r
    generalize x / 256 &&& rep 51 n = s
    omega
theorem B_comp {f g : Nat → Nat} (hf : ∀ b, b < 256 → f b < 256) : ∀ n x, B g n (B f n x) = B (fun b => g (f b)) n x
  | 0, x => rfl
  | n + 1, x => by
    have h := hf (x % 256) (by omega)
    rw [B_succ g, B_succ f, B_succ (fun b => g (f b))]
    rw [show (f (x % 256) + 256 * B f n (x / 256)) % 256 = f (x % 256) by omega, show (f (x % 256) + 256 * B f n (x / 256)) / 256 = B f n (x / 256) by omega, B_comp hf n]
theorem n3 {f : Nat → Nat} (hf : ∀ b, b < 256 → f b / 16 ≤ 4 ∧ f b % 16 ≤ 4) : ∀ n z, (B f n z / 16 + B f n z) &&& rep 15 n = B (fun b => f b / 16 + f b % 16) n z
  | 0, z => by simp [rep, B]
  | n + 1, z => by
    have h := hf (z % 256) (by omega)
    have hy : B f n (z / 256) % 16 ≤ 4 := by
      cases n with
      | zero => simp [B]
      | succ n => have := hf (z / 256 % 256) (by omega); rw [B_succ]; omega
    have ih := n3 hf n (z / 256)
    rw [land_byte, rep_mod (by omega), rep_div (by omega)]
    have e1 : (B f (n + 1) z / 16 + B f (n + 1) z) % 256 = f (z % 256) / 16 + 16 * (B f n (z / 256) % 16) + f (z % 256) := by
      rw [B_succ]; omega
    have e2 : (B f (n + 1) z / 16 + B f (n + 1) z) / 256 = B f n (z / 256) / 16 + B f n (z / 256) := by
      rw [B_succ]; omega
    rw [e1, e2, ih]
    have e3 : (f (z % 256) / 16 + 16 * (B f n (z / 256) % 16) + f (z % 256)) &&& 15 = f (z % 256) / 16 + f (z % 256) % 16 := by
      rw [Nat.and_two_pow_sub_one_eq_mod _ 4]
      omega
    rw [e3, B_succ]
def pc (b : Nat) : Nat := t2 (t1 b) / 16 + t2 (t1 b) % 16
theorem t1_lt : ∀ b, b < 256 → t1 b < 256 := fun b hb => (show ∀ b : Fin 256, t1 b.val < 256 by decide +kernel) ⟨b, hb⟩
theorem t21_ok : ∀ b, b < 256 → t2 (t1 b) / 16 ≤ 4 ∧ t2 (t1 b) % 16 ≤ 4 := fun b hb => (show ∀ b : Fin 256, t2 (t1 b.val) / 16 ≤ 4 ∧ t2 (t1 b.val) % 16 ≤ 4 by decide +kernel) ⟨b, hb⟩
theorem t21_lt : ∀ b, b < 256 → t2 (t1 b) < 256 := fun b hb => by have := t21_ok b hb; omega
theorem pc_bits : ∀ b, b < 256 → pc b = b % 2 + b / 2 % 2 + b / 4 % 2 + b / 8 % 2 + b / 16 % 2 + b / 32 % 2 + b / 64 % 2 + b / 128 % 2 := fun b hb => (show ∀ b : Fin 256, pc b.val = b.val % 2 + b.val / 2 % 2 + b.val / 4 % 2 + b.val / 8 % 2 + b.val / 16 % 2 + b.val / 32 % 2 + b.val / 64 % 2 + b.val / 128 % 2 by decide +kernel) ⟨b, hb⟩
theorem n123 (n x : Nat) : (B t2 n (B t1 n x) / 16 + B t2 n (B t1 n x)) &&& rep 15 n = B pc n x := by
  rw [B_comp t1_lt]
  exact n3 t21_ok n x
theorem B_lt {f : Nat → Nat} (hf : ∀ b, b < 256 → f b < 256) : ∀ n x, B f n x < 256 ^ n
  | 0, x => by simp [B]
  | n + 1, x => by
    have h := hf (x % 256) (by omega)
    have ih := B_lt hf n (x / 256)
    rw [B_succ, Nat.pow_succ]
    omega
theorem bandK_nat (a b : Nat) (ha : a < 18446744073709551616) (hb : b < 18446744073709551616) : bandK .u64 (a : Int) (b : Int) = ((a &&& b : Nat) : Int) := by
  have hab : a &&& b ≤ a := Nat.and_le_left
  unfold bandK
  rw [BitVec.ofInt_natCast, BitVec.ofInt_natCast, BitVec.toNat_and, BitVec.toNat_ofNat, BitVec.toNat_ofNat]
  rw [show a % 2 ^ IntKind.u64.bits = a from Nat.mod_eq_of_lt ha, show b % 2 ^ IntKind.u64.bits = b from Nat.mod_eq_of_lt hb]
  exact wu64 _ (by omega) (by omega)
theorem shrK_nat (a k : Nat) (hk : k ≤ 64) : shrK .u64 (a : Int) (k : Int) = ((a / 2 ^ k : Nat) : Int) := by
  unfold shrK
  rw [show min ((k : Int).toNat) IntKind.u64.bits = k from by simp [IntKind.bits]; omega]
  rw [Int.fdiv_eq_ediv_of_nonneg _ (Int.le_of_lt (Int.pow_pos (by decide))), Int.natCast_ediv, Int.natCast_pow]
  rfl
theorem ones1_nat (x : Nat) (hx : x < 18446744073709551616) : ones1 x = (B t1 8 x : Nat) := by
  unfold ones1
  rw [show (1 : Int) = ((1 : Nat) : Int) from rfl, shrK_nat _ _ (by omega), show (6148914691236517205 : Int) = ((rep 85 8 : Nat) : Int) from by decide, bandK_nat _ _ (by omega) (by decide), bandK_nat _ _ hx (by decide), ← n1 8 x, show x / 2 ^ 1 = x / 2 from rfl]
  have h := B_lt t1_lt 8 x
  rw [← n1 8 x] at h
  exact wu64 _ (by omega) (by omega)
theorem t2_lt : ∀ b, b < 256 → t2 b < 256 := fun b hb => (show ∀ b : Fin 256, t2 b.val < 256 by decide +kernel) ⟨b, hb⟩
theorem ones2_nat (x : Nat) (hx : x < 18446744073709551616) : ones2 x = (B t2 8 x : Nat) := by
  unfold ones2
  rw [show (2 : Int) = ((2 : Nat) : Int) from rfl, shrK_nat _ _ (by omega), show (3689348814741910323 : Int) = ((rep 51 8 : Nat) : Int) from by decide, bandK_nat _ _ (by omega) (by decide), bandK_nat _ _ hx (by decide), ← n2 8 x, show x / 2 ^ 2 = x / 4 from rfl]
  have h := B_lt t2_lt 8 x
  rw [← n2 8 x] at h
  exact wu64 _ (by omega) (by omega)
theorem B_le {f : Nat → Nat} {c : Nat} (hf : ∀ b, b < 256 → f b ≤ c) : ∀ n x, B f n x ≤ c * rep 1 n
  | 0, x => by simp [B]
  | n + 1, x => by
    have h := hf (x % 256) (by omega)
    have ih := B_le hf n (x / 256)
    rw [B_succ, show rep 1 (n + 1) = 1 + 256 * rep 1 n from rfl, Nat.mul_add, Nat.mul_left_comm]
    omega
theorem ones3_nat (x : Nat) : ones3 (B t2 8 (B t1 8 x) : Nat) = (B pc 8 x : Nat) := by
  unfold ones3
  have hle := B_le (f := fun b => t2 (t1 b)) (c := 68) (fun b hb => by have := t21_ok b hb; omega) 8 x
  rw [← B_comp (g := t2) t1_lt] at hle
  rw [show rep 1 8 = 72340172838076673 from by decide] at hle
  rw [← n123 8 x]
  generalize B t2 8 (B t1 8 x) = y at *
  rw [show (4 : Int) = ((4 : Nat) : Int) from rfl, shrK_nat _ _ (by omega), wu64 _ (by omega) (by omega), show ((y / 2 ^ 4 : Nat) : Int) + (y : Int) = ((y / 16 + y : Nat) : Int) from by push_cast; rfl, show (1085102592571150095 : Int) = ((rep 15 8 : Nat) : Int) from by decide]
  exact bandK_nat _ _ (by omega) (by decide)
theorem pc_le : ∀ b, b < 256 → pc b ≤ 8 := fun b hb => by have := pc_bits b hb; omega
set_option maxHeartbeats 2000000 in
theorem ones_nat (x : Nat) (hx : x < 18446744073709551616) : ones x = ((pc (x % 256) + pc (x / 256 % 256) + pc (x / 256 / 256 % 256) + pc (x / 256 / 256 / 256 % 256) + pc (x / 256 / 256 / 256 / 256 % 256) + pc (x / 256 / 256 / 256 / 256 / 256 % 256) + pc (x / 256 / 256 / 256 / 256 / 256 / 256 % 256) + pc (x / 256 / 256 / 256 / 256 / 256 / 256 / 256 % 256) : Nat) : Int) := by
  unfold ones
  have hb := B_lt t1_lt 8 x
  rw [ones1_nat x hx, ones2_nat _ (by omega), ones3_nat]
  have e : B pc 8 x = pc (x % 256) + 256 * (pc (x / 256 % 256) + 256 * (pc (x / 256 / 256 % 256) + 256 * (pc (x / 256 / 256 / 256 % 256) + 256 * (pc (x / 256 / 256 / 256 / 256 % 256) + 256 * (pc (x / 256 / 256 / 256 / 256 / 256 % 256) + 256 * (pc (x / 256 / 256 / 256 / 256 / 256 / 256 % 256) + 256 * (pc (x / 256 / 256 / 256 / 256 / 256 / 256 / 256 % 256) + 256 * 0))))))) := by simp only [B]
  have l0 := pc_le (x % 256) (by omega)
  have l1 := pc_le (x / 256 % 256) (by omega)
  have l2 := pc_le (x / 256 / 256 % 256) (by omega)
  have l3 := pc_le (x / 256 / 256 / 256 % 256) (by omega)
  have l4 := pc_le (x / 256 / 256 / 256 / 256 % 256) (by omega)
  have l5 := pc_le (x / 256 / 256 / 256 / 256 / 256 % 256) (by omega)
  have l6 := pc_le (x / 256 / 256 / 256 / 256 / 256 / 256 % 256) (by omega)
  have l7 := pc_le (x / 256 / 256 / 256 / 256 / 256 / 256 / 256 % 256) (by omega)
  rw [e]
  clear e hb
  generalize pc (x % 256) = c0 at *
  generalize pc (x / 256 % 256) = c1 at *
  generalize pc (x / 256 / 256 % 256) = c2 at *
  generalize pc (x / 256 / 256 / 256 % 256) = c3 at *
  generalize pc (x / 256 / 256 / 256 / 256 % 256) = c4 at *
  generalize pc (x / 256 / 256 / 256 / 256 / 256 % 256) = c5 at *
  generalize pc (x / 256 / 256 / 256 / 256 / 256 / 256 % 256) = c6 at *
  generalize pc (x / 256 / 256 / 256 / 256 / 256 / 256 / 256 % 256) = c7 at *
  have f4 : ∀ (v k : Nat), k ≤ 64 → v + v / 2 ^ k < 18446744073709551616 → ones4 k v = ((v + v / 2 ^ k : Nat) : Int) := fun v k hk h => by
    unfold ones4
    rw [shrK_nat _ _ hk, show (v : Int) + ((v / 2 ^ k : Nat) : Int) = ((v + v / 2 ^ k : Nat) : Int) from by push_cast; rfl]
    generalize v / 2 ^ k = q at *
    exact wu64 _ (by omega) (by omega)
  have g1 : ∀ v, v = c0 + 256 * (c1 + 256 * (c2 + 256 * (c3 + 256 * (c4 + 256 * (c5 + 256 * (c6 + 256 * (c7 + 256 * 0))))))) → v + v / 2 ^ 8 = (c0 + c1) + 256 * (c1 + c2 + 256 * (c2 + c3 + 256 * (c3 + c4 + 256 * (c4 + c5 + 256 * (c5 + c6 + 256 * (c6 + c7 + 256 * c7)))))) := by
    intro v hv; omega
  generalize hv : c0 + 256 * (c1 + 256 * (c2 + 256 * (c3 + 256 * (c4 + 256 * (c5 + 256 * (c6 + 256 * (c7 + 256 * 0))))))) = v at *
  have g1' := g1 v rfl
  rw [show (8 : Int) = ((8 : Nat) : Int) from rfl, f4 v 8 (by omega) (by omega)]
  generalize v + v / 2 ^ 8 = u at *
  have g2 : u + u / 2 ^ 16 = (c0 + c1 + c2 + c3) + 256 * (c1 + c2 + c3 + c4 + 256 * (c2 + c3 + c4 + c5 + 256 * (c3 + c4 + c5 + c6 + 256 * (c4 + c5 + c6 + c7 + 256 * (c5 + c6 + c7 + 256 * (c6 + c7 + 256 * c7)))))) := by omega
  rw [show (16 : Int) = ((16 : Nat) : Int) from rfl, f4 u 16 (by omega) (by omega)]
  generalize u + u / 2 ^ 16 = t at *
  have dv : ∀ t L H : Nat, t = L + 4294967296 * H → L < 4294967296 → t / 2 ^ 32 = H := by intro t L H h1 h2; omega
  have md : ∀ (S M M' R : Nat), R < 256 → S = R + 256 * (M + M') → S % 256 = R := by intro S M M' R h1 h2; omega
  have g2b := dv t (c0 + c1 + c2 + c3 + 256 * (c1 + c2 + c3 + c4 + 256 * (c2 + c3 + c4 + c5 + 256 * (c3 + c4 + c5 + c6)))) (c4 + c5 + c6 + c7 + 256 * (c5 + c6 + c7 + 256 * (c6 + c7 + 256 * c7))) (by clear g1 f4; omega) (by clear g1 f4 g2 g1' hv; omega)
  have g3 : (t + t / 2 ^ 32) % 256 = c0 + c1 + c2 + c3 + c4 + c5 + c6 + c7 := by
    rw [g2b, g2]
    refine md _ (c1 + c2 + c3 + c4 + 256 * (c2 + c3 + c4 + c5 + 256 * (c3 + c4 + c5 + c6 + 256 * (c4 + c5 + c6 + c7 + 256 * (c5 + c6 + c7 + 256 * (c6 + c7 + 256 * c7)))))) (c5 + c6 + c7 + 256 * (c6 + c7 + 256 * c7)) _ (by clear g1 f4 g2 g2b g1' hv; omega) (by clear g1 f4 g2 g2b g1' hv; omega)
  have g4 : t + t / 2 ^ 32 < 9223372036854775808 := by rw [g2b, g2]; clear g1 f4 g2 g2b g3 g1' hv dv md; omega
  rw [show (32 : Int) = ((32 : Nat) : Int) from rfl, f4 t 32 (by decide) (Nat.lt_trans g4 (by decide))]
  generalize t + t / 2 ^ 32 = s at *
  clear g1 f4 g2 g2b g1' hv dv md
  rw [wi64 _ (by omega) (by omega)]
  unfold bandK
  rw [show (127 : Int) = ((127 : Nat) : Int) from rfl, BitVec.ofInt_natCast, BitVec.ofInt_natCast, BitVec.toNat_and, BitVec.toNat_ofNat, BitVec.toNat_ofNat]
  rw [show s % 2 ^ IntKind.i64.bits = s from Nat.mod_eq_of_lt (by simp [IntKind.bits]; omega), show 127 % 2 ^ IntKind.i64.bits = 2 ^ 7 - 1 from by decide, Nat.and_two_pow_sub_one_eq_mod, wi64 _ (by omega) (by omega)]
  congr 1
  omega
end Go.Aw.W
end
section
/- The plain laws of connection parameters: checks, bytes, back and forth (own work). -/
set_option linter.unusedVariables false
namespace Go.Aw.W
open Go Go.Aw Go.Proofs
theorem cwithin_go (all : List ConnectSpan) (hl : all.length ≤ 4611686018427387904) : ∀ (n : Nat) (i : Int), 0 ≤ i → i ≤ all.length → (all.length - i).toNat < n → cwithin.go all n i = (all.drop i.toNat).all fun x => r17within x.n x.low x.high
  | 0, i, h0, h1, h2 => by omega
  | n + 1, i, h0, h1, h2 => by
    unfold cwithin.go
    by_cases hi : i < all.length
    · have hlt : i.toNat < all.length := by omega
      simp only [hi, decide_true, cond_true]
      rw [wi64 (i + (1 : Int)) (by omega) (by omega), cwithin_go all hl n (i + 1) (by omega) (by omega) (by omega), List.drop_eq_getElem_cons hlt, List.all_cons]
      have e : all.getD i.toNat ConnectSpan.zero = all[i.toNat] := by simp [List.getD, List.getElem?_eq_getElem hlt]
      have e2 : (i + 1).toNat = i.toNat + 1 := by omega
      rw [e, e2]
      unfold r17within
      by_cases a : all[i.toNat].n < all[i.toNat].low
      · have a2 : ¬ all[i.toNat].low ≤ all[i.toNat].n := by omega
        simp [a, a2]
      · have a2 : all[i.toNat].low ≤ all[i.toNat].n := by omega
        by_cases b : all[i.toNat].high < all[i.toNat].n
        · have b2 : ¬ all[i.toNat].n ≤ all[i.toNat].high := by omega
          simp [a, a2, b, b2]
        · have b2 : all[i.toNat].n ≤ all[i.toNat].high := by omega
          simp [a, a2, b, b2]
    · simp only [hi, decide_false, cond_false]
      rw [List.drop_of_length_le (by omega)]
      rfl
theorem cwithin_eq (all : List ConnectSpan) (hl : all.length ≤ 4611686018427387904) : cwithin all = all.all fun x => r17within x.n x.low x.high := by
  unfold cwithin
  rw [cwithin_go all hl _ _ (by omega) (by omega) (by omega)]
  rfl
theorem checkUpdate_eq (u : Update) : cCheckUpdate u = r17CheckUpdate u := by
  unfold cCheckUpdate r17CheckUpdate
  rw [cwithin_eq _ (by simp)]
  simp only [List.all_cons, List.all_nil]
  generalize r17within u.WinSize 1 8 = a
  generalize r17within u.WinOffset 0 3200 = b
  generalize r17within u.Interval 6 3200 = c
  generalize r17within u.Latency 0 499 = d
  generalize r17within u.Timeout 10 3200 = e
  cases a <;> cases b <;> cases c <;> cases d <;> cases e <;> rfl
theorem check_eq (p : ConnParams) (hk : kCheck p.Map = r12Check p.Map) : cCheck p = r17Check p := by
  unfold cCheck r17Check
  rw [cwithin_eq _ (by simp), hk, checkUpdate_eq]
  simp only [List.all_cons, List.all_nil]
  generalize r17within p.Hop 5 16 = a
  generalize r17within p.PPM 0 500 = b
  cases a <;> cases b <;> rfl
def cntB : Nat → Nat → Nat
  | 0, _ => 0
  | n + 1, x => x % 2 + cntB n (x / 2)
theorem cntB_add : ∀ (a b x : Nat), cntB (a + b) x = cntB a x + cntB b (x / 2 ^ a)
  | 0, b, x => by simp [cntB]
  | a + 1, b, x => by
    rw [show a + 1 + b = (a + b) + 1 by omega, cntB, cntB_add a b, cntB, Nat.div_div_eq_div_mul, Nat.pow_succ, Nat.mul_comm 2 (2 ^ a)]; omega
theorem cntB_zero : ∀ n, cntB n 0 = 0
  | 0 => rfl
  | n + 1 => by simp [cntB, cntB_zero n]
theorem pc_cnt (x : Nat) : pc (x % 256) = cntB 8 x := by
  rw [pc_bits _ (by omega)]
  simp only [cntB]
  omega
theorem ones_cnt (x : Nat) (hx : x < 18446744073709551616) : ones x = (cntB 64 x : Nat) := by
  rw [ones_nat x hx]
  have e : ∀ n y, cntB (8 + n) y = pc (y % 256) + cntB n (y / 256) := fun n y => by rw [cntB_add, pc_cnt]
  have e8 : ∀ y, cntB 8 y = pc (y % 256) := fun y => (pc_cnt y).symm
  have h64 : cntB 64 x = pc (x % 256) + (pc (x / 256 % 256) + (pc (x / 256 / 256 % 256) + (pc (x / 256 / 256 / 256 % 256) + (pc (x / 256 / 256 / 256 / 256 % 256) + (pc (x / 256 / 256 / 256 / 256 / 256 % 256) + (pc (x / 256 / 256 / 256 / 256 / 256 / 256 % 256) + pc (x / 256 / 256 / 256 / 256 / 256 / 256 / 256 % 256))))))) := by
    rw [show (64 : Nat) = 8 + 56 from rfl, e, show (56 : Nat) = 8 + 48 from rfl, e, show (48 : Nat) = 8 + 40 from rfl, e, show (40 : Nat) = 8 + 32 from rfl, e, show (32 : Nat) = 8 + 24 from rfl, e, show (24 : Nat) = 8 + 16 from rfl, e, show (16 : Nat) = 8 + 8 from rfl, e, e8]
  rw [h64]
  simp only [Nat.add_assoc]
theorem r12Has_eq (m i : Int) (h0 : 0 ≤ m) (h1 : m < 18446744073709551616) (i0 : 0 ≤ i) (i1 : i ≤ 36) : r12Has m i = decide (m / 2 ^ i.toNat % 2 = 1) := by
  unfold r12Has
  rw [decide_eq_true i0, decide_eq_true i1, r1Power_eq i0 (by omega), Int.tdiv_eq_ediv_of_nonneg h0]
  have hp : (0 : Int) < 2 ^ i.toNat := Int.pow_pos (by decide)
  have h2 : 0 ≤ m / 2 ^ i.toNat := Int.ediv_nonneg h0 (by omega)
  have h3 : m / 2 ^ i.toNat ≤ m := Int.ediv_le_self _ h0
  rw [wu64 _ h2 (by omega), Int.tmod_eq_emod_of_nonneg h2]
  simp only [cond_true]
  rw [Bool.eq_iff_iff]; simp
theorem r12List_go (m : Nat) (hm : m < 18446744073709551616) : ∀ (n : Nat) (i : Int) (out : List Int), 0 ≤ i → i ≤ 37 → (37 - i).toNat < n → (r12List.go (m : Int) n i out).length = out.length + cntB (37 - i).toNat (m / 2 ^ i.toNat)
  | 0, i, out, h0, h1, h2 => by omega
  | n + 1, i, out, h0, h1, h2 => by
    unfold r12List.go
    by_cases hi : i ≤ 36
    · simp only [hi, decide_true, cond_true]
      rw [wi64 (i + (1 : Int)) (by omega) (by omega), r12Has_eq (m : Int) i (by omega) (by omega) h0 hi]
      have e1 : (37 - i).toNat = (37 - (i + 1)).toNat + 1 := by omega
      have e2 : m / 2 ^ i.toNat / 2 = m / 2 ^ (i + 1).toNat := by rw [Nat.div_div_eq_div_mul, ← Nat.pow_succ, show (i + 1).toNat = i.toNat + 1 by omega]
      have e3 : ((m : Int) / 2 ^ i.toNat % 2 = 1) ↔ m / 2 ^ i.toNat % 2 = 1 := by
        rw [show (2 : Int) ^ i.toNat = ((2 ^ i.toNat : Nat) : Int) by simp, ← Int.natCast_ediv]; omega
      rw [e1, cntB, e2]
      by_cases hb : m / 2 ^ i.toNat % 2 = 1
      · simp only [e3.2 hb, decide_true, cond_true]
        rw [r12List_go m hm n (i + 1) _ (by omega) (by omega) (by omega), List.length_append, List.length_singleton, hb]; omega
      · have hb' : m / 2 ^ i.toNat % 2 = 0 := by omega
        simp only [mt e3.1 hb, decide_false, cond_false]
        rw [r12List_go m hm n (i + 1) _ (by omega) (by omega) (by omega), hb']; omega
    · simp only [hi, decide_false, cond_false]
      rw [show (37 - i).toNat = 0 by omega]; simp [cntB]
theorem r12Count_eq (m : Nat) (hm : m < 18446744073709551616) : r12Count (m : Int) = (cntB 37 m : Nat) := by
  unfold r12Count r12List
  rw [r12List_go m hm _ 0 [] (by omega) (by omega) (by omega)]
  simp
theorem kCheck_eq (m : Int) (h0 : 0 ≤ m) (h1 : m < 18446744073709551616) : kCheck m = r12Check m := by
  obtain ⟨x, rfl⟩ := Int.eq_ofNat_of_zero_le h0
  unfold kCheck r12Check kOnes
  rw [bclr_low (n := 37) rfl h0 (by rw [p64]; exact h1) (by decide) (by decide), band_low (n := 37) rfl h0 (by rw [p64]; exact h1) (by decide) (by decide)]
  have hp : r1Power 37 = 137438953472 := by rw [r1Power_eq (by decide) (by decide)]; decide
  rw [hp, show (2 : Int) ^ 37 = 137438953472 by decide]
  by_cases hx : (137438953472 : Int) ≤ x
  · have h3 : ((x : Int) - x % 137438953472 != 0) = true := by simp only [bne_iff_ne, ne_eq]; omega
    rw [h3, decide_eq_true hx]; rfl
  · have e : (x : Int) % 137438953472 = x := by omega
    rw [e, Int.sub_self, ones_cnt x (by omega), r12Count_eq x (by omega)]
    have h2 : cntB 64 x = cntB 37 x := by
      rw [show 64 = 37 + 27 from rfl, cntB_add, Nat.div_eq_of_lt (by omega), cntB_zero]; omega
    rw [h2]
    simp [hx]
theorem wu64_i64 (n : Int) : IntKind.wrap IntKind.u64 (IntKind.wrap IntKind.i64 n) = IntKind.wrap IntKind.u64 n := by
  simp [IntKind.wrap, IntKind.bits, IntKind.signed]; omega
theorem within_iff (n l h : Int) : (r17within n l h = true) = (l ≤ n ∧ n ≤ h) := by
  unfold r17within
  by_cases a : l ≤ n <;> simp [a]
theorem checkUpdate_ok (u : Update) (h : r17CheckUpdate u = 0) : 1 ≤ u.WinSize ∧ u.WinSize ≤ 8 ∧ 0 ≤ u.WinOffset ∧ u.WinOffset ≤ 3200 ∧ 6 ≤ u.Interval ∧ u.Interval ≤ 3200 ∧ 0 ≤ u.Latency ∧ u.Latency ≤ 499 ∧ 10 ≤ u.Timeout ∧ u.Timeout ≤ 3200 := by
  have h1 := within_iff u.WinSize 1 8
  have h2 := within_iff u.WinOffset 0 3200
  have h3 := within_iff u.Interval 6 3200
  have h4 := within_iff u.Latency 0 499
  have h5 := within_iff u.Timeout 10 3200
  unfold r17CheckUpdate at h
  generalize r17within u.WinSize 1 8 = a at *
  generalize r17within u.WinOffset 0 3200 = b at *
  generalize r17within u.Interval 6 3200 = c at *
  generalize r17within u.Latency 0 499 = d at *
  generalize r17within u.Timeout 10 3200 = e at *
  cases a <;> cases b <;> cases c <;> cases d <;> cases e <;> simp at h h1 h2 h3 h4 h5
  exact ⟨h1.1, h1.2, h2.1, h2.2, h3.1, h3.2, h4.1, h4.2, h5.1, h5.2⟩
end Go.Aw.W
end
section
/- Checks and filters of both sides are alike. -/
set_option linter.unusedVariables false
set_option maxRecDepth 4000
namespace Go.Aw.W
open Go Go.Aw Go.Proofs
theorem has_u64 {n : Int} (h : IntKind.has .u64 n) : U64 n := by
  have : 0 ≤ n ∧ n ≤ 18446744073709551615 := by simpa [IntKind.has, IntKind.min, IntKind.max, IntKind.bits, IntKind.signed] using h
  unfold U64; omega
theorem hasA {a : Address} (h : a.has) : HasA a := has_u64 h.2
theorem ids_has {l : List Identity} (h : ∀ y ∈ l, y.has) : ∀ x ∈ l, U64 x.IRK := fun x hx => has_u64 (h x hx).2
theorem kinds_out {k : Int} (h : ¬ (0 ≤ k ∧ k ≤ 6)) : (k == (0 : Int)) = false ∧ (k == (1 : Int)) = false ∧ (k == (2 : Int)) = false ∧ (k == (3 : Int)) = false ∧ (k == (4 : Int)) = false ∧ (k == (5 : Int)) = false ∧ (k == (6 : Int)) = false := by
  simp only [beq_eq_false_iff_ne, ne_eq]; omega
theorem form_all (k : Int) : (aForm k).known = (!(bif decide (k < (0 : Int)) then true else decide ((6 : Int) < k))) ∧ (aForm k).target = hasTarget k ∧ (aForm k).data = hasData k ∧ (aForm k).conn = (k == (5 : Int)) := by
  by_cases h : 0 ≤ k ∧ k ≤ 6
  · rcases (by omega : k = 0 ∨ k = 1 ∨ k = 2 ∨ k = 3 ∨ k = 4 ∨ k = 5 ∨ k = 6) with rfl | rfl | rfl | rfl | rfl | rfl | rfl <;> decide
  · obtain ⟨e0, e1, e2, e3, e4, e5, e6⟩ := kinds_out h
    have hk : (bif decide (k < (0 : Int)) then true else decide ((6 : Int) < k)) = true := by
      by_cases h0 : k < 0
      · simp [h0]
      · have h6 : 6 < k := by omega
        simp [h6]
    rw [hk]
    unfold aForm hasTarget hasData
    simp only [e0, e1, e2, e3, e4, e5, e6]
    exact ⟨rfl, rfl, rfl, rfl⟩
theorem form_known (k : Int) : (aForm k).known = !(bif decide (k < (0 : Int)) then true else decide ((6 : Int) < k)) := (form_all k).1
theorem form_target (k : Int) : (aForm k).target = hasTarget k := (form_all k).2.1
theorem form_data (k : Int) : (aForm k).data = hasData k := (form_all k).2.2.1
theorem form_conn (k : Int) : (aForm k).conn = (k == (5 : Int)) := (form_all k).2.2.2
theorem pCheck_eq (p : AdvPDU) (h : p.has) : pCheck p = r19Check p := by
  obtain ⟨h0, h1, h2, h3, h4⟩ := h
  have hm := has_u64 h4.2.2.2.1
  unfold pCheck r19Check
  rw [form_known, form_target, form_data, form_conn, aCheck_eq _ (hasA h1), aCheck_eq _ (hasA h2), check_eq _ (kCheck_eq _ hm.1 hm.2), Bool.not_not]
def isA (a x : Address) : Bool := x.Kind == a.Kind && x.Bits == a.Bits
theorem isA_comm (a x : Address) : isA a x = isA x a := by unfold isA; rw [BEq.comm (a := x.Kind), BEq.comm (a := x.Bits)]
def elem20 (l : List Address) (a : Address) : Bool := l.any (isA a)
theorem drop_at (l : List Address) (i : Nat) (h : i < l.length) : l.drop i = l.getD i Address.zero :: l.drop (i + 1) := by
  rw [List.drop_eq_getElem_cons h]; simp [List.getD, h]
theorem element_go (l : List Address) (a : Address) (hl : l.length ≤ 4611686018427387904) : ∀ (n : Nat) (i : Int), 0 ≤ i → i ≤ l.length → (l.length - i).toNat < n → r20Element.go l a n i = (l.drop i.toNat).any (isA a)
  | 0, i, h0, h1, h2 => by omega
  | n + 1, i, h0, h1, h2 => by
    unfold r20Element.go
    by_cases hi : i < l.length
    · rw [decide_eq_true hi, cond_true, drop_at l i.toNat (by omega), List.any_cons]
      rw [wi64 (i + (1 : Int)) (by omega) (by omega), element_go l a hl n (i + 1) (by omega) (by omega) (by omega), show (i + 1).toNat = i.toNat + 1 by omega]
      rw [show isA a (List.getD l i.toNat Address.zero) = ((List.getD l (Int.toNat i) Address.zero).Kind == a.Kind && (List.getD l (Int.toNat i) Address.zero).Bits == a.Bits) from rfl]
      generalize ((List.getD l (Int.toNat i) Address.zero).Kind == a.Kind && (List.getD l (Int.toNat i) Address.zero).Bits == a.Bits) = m
      cases m <;> rfl
    · rw [decide_eq_false hi, cond_false, List.drop_eq_nil_of_le (by omega)]; rfl
theorem element_eq (l : List Address) (a : Address) (hl : l.length ≤ 4611686018427387904) : r20Element l a = elem20 l a := by
  unfold r20Element elem20
  rw [element_go l a hl _ _ (by omega) (by omega) (by omega)]; rfl
theorem has_go (l : List Address) (a : Address) (n : Nat) : ∀ (i : Int), aHas.go l a n i = r20Element.go l a n i := by
  induction n with
  | zero => intro i; rfl
  | succ n ih =>
    intro i
    unfold aHas.go r20Element.go
    rw [ih, BEq.comm (a := a.Kind), BEq.comm (a := a.Bits)]
theorem has_eq (l : List Address) (a : Address) (hl : l.length ≤ 4611686018427387904) : aHas l a = elem20 l a := by
  rw [← element_eq l a hl]; exact has_go l a _ _
theorem same_go (a : List Address) (hl : a.length ≤ 4611686018427387904) : ∀ (n : Nat) (i : Int), 0 ≤ i → i ≤ a.length → (a.length - i).toNat < n → r20Same.go a a n i = true
  | 0, i, h0, h1, h2 => by omega
  | n + 1, i, h0, h1, h2 => by
    unfold r20Same.go
    by_cases hi : i < a.length
    · rw [decide_eq_true hi, cond_true, wi64 (i + (1 : Int)) (by omega) (by omega), same_go a hl n (i + 1) (by omega) (by omega) (by omega)]
      simp
    · rw [decide_eq_false hi, cond_false]
theorem same_refl (a : List Address) (hl : a.length ≤ 4611686018427387904) : r20Same a a = true := by
  unfold r20Same
  rw [show ((a.length : Int) != (a.length : Int)) = false by simp, cond_false]
  exact same_go a hl _ _ (by omega) (by omega) (by omega)
theorem accHas_eq (l : List Address) (ids : List Identity) (a : Address) (hl : l.length ≤ 4611686018427387904) (hi : ids.length ≤ 4611686018427387904) (ha : HasA a) (hk : ∀ x ∈ ids, U64 x.IRK) : accHas l ids a = r20Has l ids a := by
  unfold accHas r20Has
  rw [find_eq ids a ha hk hi, has_eq l a hl, element_eq l a hl, has_eq l _ hl, element_eq l _ hl]
theorem accAllows_eq (p r : Int) (l : List Address) (ids : List Identity) (a : Address) (hl : l.length ≤ 4611686018427387904) (hi : ids.length ≤ 4611686018427387904) (ha : HasA a) (hk : ∀ x ∈ ids, U64 x.IRK) : accAllows p r l ids a = r20Allows p r l ids a := by
  unfold accAllows r20Allows
  rw [accHas_eq l ids a hl hi ha hk]
  by_cases c1 : p < 0
  · rw [decide_eq_true c1]; rfl
  by_cases c2 : 3 < p
  · rw [decide_eq_true c2, decide_eq_false c1]; rfl
  rw [decide_eq_false c1, decide_eq_false c2]
  have : p = 0 ∨ p = 1 ∨ p = 2 ∨ p = 3 := by omega
  rcases this with rfl | rfl | rfl | rfl <;> rfl
end Go.Aw.W
end
section
/- The laws of chapter 21: starts, delays, answers. -/
set_option linter.unusedVariables false
set_option maxRecDepth 8000
namespace Go.Aw.W
open Go Go.Aw Go.Proofs
theorem lives21_true : lives21 = true := rfl
theorem moment_eq (t : Int) : advMoment t = r21Place t := by
  unfold advMoment r21Place minI maxI
  split <;> split <;> (try split) <;> (try split) <;> omega
theorem moment_id (t : Int) (h0 : 0 ≤ t) (h1 : t ≤ 1099511627776) : advMoment t = t := by
  unfold advMoment minI maxI
  split <;> split <;> omega
theorem scan_eq (k : Int) : aScan k = r19Scan k := by unfold aScan r19Scan; rfl
theorem delay_eq (seed event : Int) (hs : U64 seed) : advDelay seed event = r21Delay seed event := by
  unfold advDelay r21Delay
  rw [derive_eq seed _ _ hs (by decide) (by simp) (fun v hv => by rw [List.mem_singleton] at hv; subst hv; exact u64w _)]
theorem advertiserDelays_true (seed event : Int) (b0 : IntKind.has .u64 seed) (b1 : IntKind.has .i64 event) : advertiserDelays seed event = true := by
  unfold advertiserDelays
  rw [lives21_true, delay_eq seed event (has_u64 b0)]
  simp
theorem r21PDU_eq (p : AdvParams) : r21PDU p = advPDU p := by rw [advPDU_eq]; rfl
theorem r21Scan_eq (p : AdvParams) : r21Scan p = advScan p := by rw [advScan_eq]; rfl
theorem zero_has (k : IntKind) : IntKind.has k 0 := by cases k <;> simp [IntKind.has, IntKind.min, IntKind.max, IntKind.bits, IntKind.signed]
theorem four_has : IntKind.has .i64 4 := by simp [IntKind.has, IntKind.min, IntKind.max, IntKind.bits, IntKind.signed]
theorem conn_zero_has : ConnParams.zero.has := ⟨zero_has _, zero_has _, ⟨zero_has _, zero_has _, zero_has _, zero_has _, zero_has _⟩, zero_has _, zero_has _, zero_has _, zero_has _⟩
theorem addr_zero_has : Address.zero.has := ⟨zero_has _, zero_has _⟩
theorem advPDU_has (p : AdvParams) (h : p.has) : (advPDU p).has := by
  rw [advPDU_eq]
  exact ⟨h.1, h.2.2.1, h.2.2.2.1, h.2.2.2.2.1, conn_zero_has⟩
theorem advScan_has (p : AdvParams) (h : p.has) : (advScan p).has := by
  rw [advScan_eq]
  exact ⟨four_has, h.2.2.1, addr_zero_has, h.2.2.2.2.2.1, conn_zero_has⟩
theorem start_tree0 (Z O : Advertiser) (iv sc sl pol len : Bool) (X Y : Int) :
    cond ((cond iv 5 (cond (X != 0) X (cond sc (cond (Y != 0) Y (cond pol 5 (cond len 4 0))) (cond sl 1 (cond pol 5 (cond len 4 0)))))) != 0) (Z, cond iv 5 (cond (X != 0) X (cond sc (cond (Y != 0) Y (cond pol 5 (cond len 4 0))) (cond sl 1 (cond pol 5 (cond len 4 0)))))) (O, (0 : Int)) =
    cond iv (Z, 5) (cond (X != 0) (Z, X) (cond sc (cond (Y != 0) (Z, Y) (cond pol (Z, 5) (cond len (Z, 4) (O, 0)))) (cond sl (Z, 1) (cond pol (Z, 5) (cond len (Z, 4) (O, 0)))))) := by
  cases hx : X != 0
  · cases hy : Y != 0
    · cases iv <;> cases sc <;> cases sl <;> cases pol <;> cases len <;> rfl
    · cases iv <;> cases sc <;> cases sl <;> cases pol <;> cases len <;> first | rfl | (simp only [cond_true, cond_false, hy])
  · cases iv <;> first | rfl | (simp only [cond_true, cond_false, hx])
theorem start_tree (Z O : Advertiser) (k0 k1 k2 k6 : Bool) (T : Int) (R : Advertiser × Int) (h : cond (T != 0) (Z, T) (O, (0 : Int)) = R) :
    cond ((cond k0 T (cond k1 T (cond k2 T (cond k6 T 12)))) != 0) (Z, cond k0 T (cond k1 T (cond k2 T (cond k6 T 12)))) (O, (0 : Int)) = cond (bif bif bif !k0 then !k1 else false then !k2 else false then !k6 else false) (Z, 12) R := by
  subst h
  cases k0 <;> cases k1 <;> cases k2 <;> cases k6 <;> rfl
theorem start_eq (p : AdvParams) (t : Int) (h : p.has) : advStart p t = r21Start p t := by
  unfold advStart advCheck r21Start
  simp only [advOwn_eq]
  rw [r21PDU_eq, r21Scan_eq, ← pCheck_eq _ (advPDU_has p h), ← pCheck_eq _ (advScan_has p h), ← scan_eq, ← moment_eq]
  exact start_tree _ _ _ _ _ _ _ _ (start_tree0 _ _ _ _ _ _ _ _ _)
theorem same2_refl (b : List Int) : r2Same b b = true := by unfold r2Same strEq; simp
theorem ids_go (a : List Identity) (hl : a.length ≤ 4611686018427387904) : ∀ (n : Nat) (i : Int), 0 ≤ i → i ≤ a.length → (a.length - i).toNat < n → r21SameIds.go a a n i = true
  | 0, i, h0, h1, h2 => by omega
  | n + 1, i, h0, h1, h2 => by
    unfold r21SameIds.go
    by_cases hi : i < a.length
    · rw [decide_eq_true hi, cond_true, wi64 (i + (1 : Int)) (by omega) (by omega), ids_go a hl n (i + 1) (by omega) (by omega) (by omega)]
      simp
    · rw [decide_eq_false hi, cond_false]
theorem ids_refl (a : List Identity) (hl : a.length ≤ 4611686018427387904) : r21SameIds a a = true := by
  unfold r21SameIds
  rw [show ((a.length : Int) != (a.length : Int)) = false by simp, cond_false]
  exact ids_go a hl _ _ (by omega) (by omega) (by omega)
theorem r21Same_refl (a : Advertiser) (h0 : a.Params.Accept.length ≤ 4611686018427387904) (h1 : a.Params.Identities.length ≤ 4611686018427387904) : r21Same a a = true := by
  unfold r21Same
  rw [same2_refl, same2_refl, same_refl _ h0, ids_refl _ h1]
  simp
theorem adv_small (p : AdvParams) (h : p.has) (hs : small21 p = true) : p.Data.length ≤ 140737488355328 ∧ p.Scan.length ≤ 140737488355328 ∧ p.Accept.length ≤ 4611686018427 ∧ p.Identities.length ≤ 4611686018427 := by
  have h1 := h.2.2.2.2.1.2
  have h2 := h.2.2.2.2.2.1.2
  unfold small21 at hs
  by_cases c : ((p.Accept.length : Int) ≤ 100)
  · rw [decide_eq_true c, cond_true, decide_eq_true_eq] at hs
    omega
  · rw [decide_eq_false c] at hs; cases hs
theorem advertiserStarts_pre (p : AdvParams) (t : Int) (b0 : p.has) (b1 : IntKind.has .i64 t) : p.Data.length ≤ 140737488355328 ∧ p.Scan.length ≤ 140737488355328 := by
  have h1 := b0.2.2.2.2.1.2
  have h2 := b0.2.2.2.2.2.1.2
  omega
theorem advertiserStarts_true (p : AdvParams) (t : Int) (b0 : p.has) (b1 : IntKind.has .i64 t) : advertiserStarts p t = true := by
  unfold advertiserStarts
  cases hs : small21 p
  · rfl
  · have hl := advStart_len p t (adv_small p b0 hs)
    rw [own21_eq, ← start_eq p t b0, r21Same_refl _ (by omega) (by omega)]
    simp
end Go.Aw.W
end
end
