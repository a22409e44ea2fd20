/- The laws of chapter 9: each function of the laws gives true. -/
import Derived.Test.YtaoadiciclopbaaDoorOp
import Derived.Test.YtaoadiciclopbaaDoorMix
import Derived.Test.YtaoadiciclopbaaDoorW16
set_option linter.unusedVariables false
set_option maxRecDepth 4000
namespace Go.Aw.W
open Go Go.Aw Go.Proofs
attribute [local irreducible] r6Derive pDerive pHash r9Hash
theorem has_u64 {n : Int} (h : IntKind.has .u64 n) : U64 n := by
  have : 0 ≤ n ∧ n ≤ 18446744073709551615 := by simpa [IntKind.has, IntKind.min, IntKind.max, IntKind.bits, IntKind.signed] using h
  unfold U64; omega
theorem has_u32 {n : Int} (h : IntKind.has .u32 n) : U32 n := by
  have : 0 ≤ n ∧ n ≤ 4294967295 := by simpa [IntKind.has, IntKind.min, IntKind.max, IntKind.bits, IntKind.signed] using h
  unfold U32; omega
theorem has_i64 {n : Int} (h : IntKind.has .i64 n) : -9223372036854775808 ≤ n ∧ n ≤ 9223372036854775807 := by
  simpa [IntKind.has, IntKind.min, IntKind.max, IntKind.bits, IntKind.signed] using h
theorem hasA {a : Address} (h : a.has) : HasA a := has_u64 h.2
theorem lives09_true : lives09 = true := rfl
theorem mask24 : aMask 24 = 16777215 := by decide
theorem hash_range (k n : Int) : 0 ≤ r9Hash k n ∧ r9Hash k n < 16777216 := by
  unfold r9Hash
  have := derive_range k { data := #[(114 : UInt8), (112 : UInt8), (97 : UInt8)] : ByteArray } [n]
  rw [Int.tmod_eq_emod_of_nonneg this.1]; omega
theorem random3 (n h : Int) (n0 : 1 ≤ n) (n1 : n ≤ 4194302) (h0 : 0 ≤ h) (h1 : h < 16777216) : aRandom 3 (n * 16777216 + h) = ⟨3, 70368744177664 + n * 16777216 + h⟩ := by
  unfold aRandom
  rw [show ((3 : Int) == 1) = false by decide, show ((3 : Int) == 2) = false by decide, show ((3 : Int) == 4) = false by decide, show ((3 : Int) == 3) = true by decide]
  simp only [cond_false, cond_true]
  have e1 : shrK .u64 (n * 16777216 + h) 24 = n := by
    rw [shr_eq _ (by decide) (by decide), show (2 : Int) ^ (24 : Int).toNat = 16777216 by decide]; omega
  have e2 : aFit n 22 = n := by
    unfold aFit
    rw [mask22, band_low (n := 22) rfl (by omega) (by rw [p64]; omega) (by decide) (by decide), show (2 : Int) ^ 22 = 4194304 by decide, minI_eq, maxI_eq, show IntKind.wrap .u64 (4194303 - 1) = 4194302 by decide]; omega
  have e3 : bandK .u64 (n * 16777216 + h) 16777215 = h := by
    rw [band_low (n := 24) rfl (by omega) (by rw [p64]; omega) (by decide) (by decide), show (2 : Int) ^ 24 = 16777216 by decide]; omega
  have e4 : shlK .u64 (List.getD prefixes (Int.toNat 3) 0) 46 = 70368744177664 := by decide
  have e5 : shlK .u64 n 24 = n * 16777216 := by
    rw [shl_eq rfl n (by decide) (by decide), p64, show (2 : Int) ^ (24 : Int).toNat = 16777216 by decide]; omega
  rw [e1, e2, mask24, e3, e4, e5]
  have e6 : borK .u64 70368744177664 (n * 16777216) = n * 16777216 + 70368744177664 := by
    have := bor_add (k := .u64) rfl (a := n * 16777216) (b := 1) (n := 46) (by omega) (by rw [show (2 : Int) ^ 46 = 70368744177664 by decide]; omega) (by decide) (by rw [p64]; decide) (by decide)
    rw [show (1 : Int) * 2 ^ 46 = 70368744177664 by decide] at this
    rw [bor_comm, this]
  rw [e6]
  have e7 : borK .u64 (n * 16777216 + 70368744177664) h = h + (n * 16777216 + 70368744177664) := by
    have := bor_add (k := .u64) rfl (a := h) (b := n + 4194304) (n := 24) h0 (by rw [show (2 : Int) ^ 24 = 16777216 by decide]; exact h1) (by omega) (by rw [p64, show (2 : Int) ^ 24 = 16777216 by decide]; omega) (by decide)
    rw [show (n + 4194304) * 2 ^ 24 = n * 16777216 + 70368744177664 by rw [show (2 : Int) ^ 24 = 16777216 by decide]; omega] at this
    rw [bor_comm, this]
  rw [e7]
  congr 1
  omega
def okN (k n : Int) : Prop := k ≠ 0 ∧ 1 ≤ n ∧ n ≤ 4194302
theorem make_ok (k n : Int) (hk : U64 k) (h : okN k n) : pMake k n = (⟨3, 70368744177664 + n * 16777216 + r9Hash k n⟩, 0) := by
  obtain ⟨z, n0, n1⟩ := h
  obtain ⟨r0, r1⟩ := hash_range k n
  unfold pMake
  have e1 : (k == (0 : Int)) = false := by simp [z]
  rw [e1, cond_false, decide_eq_false (by omega), decide_eq_false (by omega), wu64 n (by omega) (by omega), hash_eq k n hk ⟨by omega, by omega⟩]
  have e2 : borK .u64 (shlK .u64 n 24) (r9Hash k n) = n * 16777216 + r9Hash k n := by
    have e5 : shlK .u64 n 24 = n * 16777216 := by
      rw [shl_eq rfl n (by decide) (by decide), p64, show (2 : Int) ^ (24 : Int).toNat = 16777216 by decide]; omega
    have := bor_add (k := .u64) rfl (a := r9Hash k n) (b := n) (n := 24) r0 (by rw [show (2 : Int) ^ 24 = 16777216 by decide]; exact r1) (by omega) (by rw [p64, show (2 : Int) ^ 24 = 16777216 by decide]; omega) (by decide)
    rw [show (2 : Int) ^ 24 = 16777216 by decide] at this
    rw [e5, bor_comm, this]; omega
  rw [e2, random3 n _ n0 n1 r0 r1]
  rfl
theorem make_ref (k n : Int) (h : okN k n) : r9Make k n = (⟨3, 70368744177664 + n * 16777216 + r9Hash k n⟩, 0) := by
  obtain ⟨z, n0, n1⟩ := h
  obtain ⟨r0, r1⟩ := hash_range k n
  unfold r9Make
  have e1 : (k == (0 : Int)) = false := by simp [z]
  rw [e1, cond_false, decide_eq_false (by omega), decide_eq_false (by omega), wu64 n (by omega) (by omega), wu64 (n * 16777216) (by omega) (by omega), wu64 (70368744177664 + n * 16777216) (by omega) (by omega), wu64 _ (by omega) (by omega)]
  rfl
theorem make_bad (k n : Int) (h : ¬ okN k n) : pMake k n = r9Make k n ∧ (pMake k n).1 = Address.zero ∧ (pMake k n).2 ≠ 0 ∧ (bif bif k == (0 : Int) then true else decide (n < (1 : Int)) then true else decide ((4194302 : Int) < n)) = true := by
  unfold pMake r9Make
  by_cases z : k = 0
  · subst z; exact ⟨rfl, rfl, (show (17 : Int) ≠ 0 by decide), rfl⟩
  · have e1 : (k == (0 : Int)) = false := by simp [z]
    rw [e1]
    have hb : (bif decide (n < (1 : Int)) then true else decide ((4194302 : Int) < n)) = true := by
      by_cases a : n < 1
      · rw [decide_eq_true a]; rfl
      · have : 4194302 < n := by
          by_cases b : 4194302 < n
          · exact b
          · exact absurd ⟨z, by omega, by omega⟩ h
        rw [decide_eq_true this, decide_eq_false a]; rfl
    rw [cond_false, hb]
    exact ⟨rfl, rfl, (show (5 : Int) ≠ 0 by decide), hb⟩
theorem make_eq (k n : Int) (hk : U64 k) : pMake k n = r9Make k n := by
  by_cases h : okN k n
  · rw [make_ok k n hk h, make_ref k n h]
  · exact (make_bad k n h).1
theorem privacyMakes_true (k n : Int) (b0 : IntKind.has .u64 k) (b1 : IntKind.has .u32 n) : privacyMakes k n = true := by
  unfold privacyMakes
  rw [make_eq k n (has_u64 b0), lives09_true]; simp
theorem privacyResolves_true (k : Int) (a : Address) (b0 : IntKind.has .u64 k) (b1 : a.has) : privacyResolves k a = true := by
  unfold privacyResolves
  rw [resolves_eq k a (has_u64 b0) (hasA b1), lives09_true]; simp
def made (k n : Int) : Address := ⟨3, 70368744177664 + n * 16777216 + r9Hash k n⟩
theorem made_has (k n : Int) (h : okN k n) : HasA (made k n) := by
  obtain ⟨z, n0, n1⟩ := h
  obtain ⟨r0, r1⟩ := hash_range k n
  unfold HasA made; dsimp only; omega
theorem made_check (k n : Int) (h : okN k n) : aCheck (made k n) = 0 := by
  have hm := made_has k n h
  rw [aCheck_eq _ hm]
  obtain ⟨z, n0, n1⟩ := h
  obtain ⟨r0, r1⟩ := hash_range k n
  unfold r8Check made
  dsimp only
  rw [Int.tdiv_eq_ediv_of_nonneg (by omega), Int.tmod_eq_emod_of_nonneg (by omega)]
  have e1 : (70368744177664 + n * 16777216 + r9Hash k n) / 70368744177664 = 1 := by omega
  have e2 : (70368744177664 + n * 16777216 + r9Hash k n) % 70368744177664 = n * 16777216 + r9Hash k n := by omega
  rw [e1, e2, Int.tdiv_eq_ediv_of_nonneg (by omega)]
  have e3 : (n * 16777216 + r9Hash k n) / 16777216 = n := by omega
  rw [e3, wu64 n (by omega) (by omega)]
  have f1 : (n == (0 : Int)) = false := by simp only [beq_eq_false_iff_ne, ne_eq]; omega
  have f2 : (n == (4194303 : Int)) = false := by simp only [beq_eq_false_iff_ne, ne_eq]; omega
  rw [decide_eq_false (show ¬ 281474976710656 ≤ 70368744177664 + n * 16777216 + r9Hash k n by omega), f1, f2]
  rfl
theorem made_resolves (k n : Int) (hk : U64 k) (h : okN k n) : pResolves k (made k n) = true := by
  have hm := made_has k n h
  have hc := made_check k n h
  rw [resolves_eq k _ hk hm]
  rw [aCheck_eq _ hm] at hc
  obtain ⟨z, n0, n1⟩ := h
  obtain ⟨r0, r1⟩ := hash_range k n
  unfold r9Resolves
  rw [hc]
  have e1 : (k == (0 : Int)) = false := by simp [z]
  rw [e1]
  unfold made
  dsimp only
  rw [Int.tmod_eq_emod_of_nonneg (by omega), Int.tdiv_eq_ediv_of_nonneg (by omega), wu64 _ (by omega) (by omega), Int.tmod_eq_emod_of_nonneg (by omega)]
  have e2 : (70368744177664 + n * 16777216 + r9Hash k n) % 16777216 = r9Hash k n := by omega
  have e3 : (70368744177664 + n * 16777216 + r9Hash k n) / 16777216 % 4194304 = n := by omega
  rw [e2, e3]
  simp
theorem privacyOwn_true (k n : Int) (b0 : IntKind.has .u64 k) (b1 : IntKind.has .u32 n) : privacyOwn k n = true := by
  have hk := has_u64 b0
  unfold privacyOwn
  rw [lives09_true]
  by_cases h : okN k n
  · rw [make_ok k n hk h]
    have e1 := made_check k n h
    have e2 := made_resolves k n hk h
    unfold made at e1 e2
    dsimp only
    rw [e1, e2]; rfl
  · obtain ⟨_, e2, e3, e4⟩ := make_bad k n h
    have e5 : ((pMake k n).2 != 0) = true := by simp [e3]
    rw [e5, e4, e2, cond_true]
    have e6 : pResolves k Address.zero = false := by
      unfold pResolves
      have : (bif bif k == (0 : Int) then true else Address.zero.Kind != (3 : Int) then true else aCheck Address.zero != (0 : Int)) = true := by
        cases (k == (0 : Int)) <;> rfl
      rw [this]; rfl
    rw [e6]; rfl
theorem ids_has {l : List Identity} (h : ∀ y ∈ l, y.has) : ∀ x ∈ l, U64 x.IRK := fun x hx => has_u64 (h x hx).2
theorem privacySearches_true (list : List Identity) (a : Address) (b0 : (∀ y ∈ list, y.has) ∧ list.length * 24 ≤ 140737488351232) (b1 : a.has) : privacySearches list a = true := by
  unfold privacySearches
  rw [lives09_true, find_eq list a (hasA b1) (ids_has b0.1) (by omega)]
  cases decide ((60 : Int) < (list.length : Int)) <;> simp
def num (k e : Int) : Int := IntKind.wrap .u32 (IntKind.wrap .u64 ((1 : Int) + Int.tmod (r6Derive k { data := #[(101 : UInt8), (112 : UInt8), (111 : UInt8), (99 : UInt8), (104 : UInt8)] : ByteArray } [IntKind.wrap .u64 e]) (4194302 : Int)))
theorem num_ok (k e : Int) : 1 ≤ num k e ∧ num k e ≤ 4194302 := by
  unfold num
  have := derive_range k { data := #[(101 : UInt8), (112 : UInt8), (111 : UInt8), (99 : UInt8), (104 : UInt8)] : ByteArray } [IntKind.wrap .u64 e]
  rw [Int.tmod_eq_emod_of_nonneg this.1, wu64 _ (by omega) (by omega), wu32m]; omega
theorem at_make (k e : Int) (hk : U64 k) : pAt k e = (pMake k (num k e)).1 := by
  unfold pAt num
  rw [derive_eq k _ [IntKind.wrap .u64 e] hk (by decide) (by simp) (by intro v hv; simp only [List.mem_singleton] at hv; subst hv; exact u64w _)]
theorem at_eq (k e : Int) (hk : U64 k) : pAt k e = r9At k e := by
  rw [at_make k e hk, make_eq k _ hk]; rfl
theorem current_eq (id : Identity) (p : Bool) (l per : Int) (hk : U64 id.IRK) : pCurrent id p l per = r9Current id p l per := by
  unfold pCurrent r9Current
  rw [at_eq id.IRK _ hk, show pEpoch l per = r9Epoch l per from rfl]
  cases p
  · rfl
  · by_cases z : id.IRK = 0
    · simp [z]
    · have e1 : (id.IRK == (0 : Int)) = false := by simp [z]
      have e2 : (id.IRK != (0 : Int)) = true := by simp [z]
      rw [e1, e2]; rfl
theorem privacyPeriods_true (id : Identity) (p : Bool) (e l per : Int) (b0 : id.has) (b1 : True) (b2 : IntKind.has .i64 e) (b3 : IntKind.has .i64 l) (b4 : IntKind.has .i64 per) : privacyPeriods id p e l per = true := by
  have hk := has_u64 b0.2
  unfold privacyPeriods
  rw [current_eq id p l per hk, at_eq id.IRK e hk, show pEpoch l per = r9Epoch l per from rfl, lives09_true]
  simp
theorem current_made (id : Identity) (l per : Int) (hk : U64 id.IRK) (z : id.IRK ≠ 0) : pCurrent id true l per = made id.IRK (num id.IRK (pEpoch l per)) := by
  unfold pCurrent
  have e1 : (bif !true then true else id.IRK == (0 : Int)) = false := by simp [z]
  rw [e1, cond_false, at_make _ _ hk, make_ok _ _ hk ⟨z, num_ok _ _⟩]; rfl
theorem privacyConstant_true (id : Identity) (p : Bool) (l per later : Int) (b0 : id.has) (b1 : True) (b2 : IntKind.has .i64 l) (b3 : IntKind.has .i64 per) (b4 : IntKind.has .i64 later) : privacyConstant id p l per later = true := by
  have hk := has_u64 b0.2
  have h1 := has_i64 b2
  have h2 := has_i64 b3
  have h3 := has_i64 b4
  unfold privacyConstant
  rw [lives09_true]
  by_cases c1 : l < 0
  · simp [c1]
  by_cases c2 : per < 1
  · simp [c2]
  by_cases c3 : later < 0
  · simp [c3]
  have q1 : Int.tmod l per = l % per := Int.tmod_eq_emod_of_nonneg (by omega)
  have q2 : 0 ≤ l % per := Int.emod_nonneg _ (by omega)
  have q3 : l % per < per := Int.emod_lt_of_pos _ (by omega)
  rw [q1, wi64 (per - l % per) (by omega) (by omega), wi64 (9223372036854775807 - later) (by omega) (by omega)]
  by_cases c4 : per - l % per ≤ later
  · simp [c4]
  by_cases c5 : 9223372036854775807 - later < l
  · simp [c5]
  rw [decide_eq_false c1, decide_eq_false c2, decide_eq_false c3, decide_eq_false c4, decide_eq_false c5, wi64 (l + later) (by omega) (by omega)]
  have he : pEpoch (l + later) per = pEpoch l per := by
    unfold pEpoch
    rw [decide_eq_false c2, decide_eq_false c1, decide_eq_false (show ¬ l + later < 0 by omega), Int.tdiv_eq_ediv_of_nonneg (by omega), Int.tdiv_eq_ediv_of_nonneg (by omega)]
    have : (l + later) / per = l / per := by
      have e1 := Int.mul_ediv_add_emod l per
      have e2 : l + later = (l % per + later) + per * (l / per) := by omega
      rw [e2, Int.add_mul_ediv_left _ _ (by omega), Int.ediv_eq_zero_of_lt (by omega) (by omega)]; omega
    rw [this]
  have hc : pCurrent id p (l + later) per = pCurrent id p l per := by unfold pCurrent; rw [he]
  rw [hc]
  cases p
  · simp [pCurrent]
  · by_cases z : id.IRK = 0
    · simp [z]
    · rw [current_made id l per hk z, made_check _ _ ⟨z, num_ok _ _⟩]
      simp [made]
end Go.Aw.W
