/- The plain laws of the octets: what both packages put and take is the same (own work). -/
import Derived.Test.YtlnbhdcaebmffaaAwB
import Derived.Test.YtlnbhdcaebmffaaW8
set_option linter.unusedVariables false
namespace Go.Aw.W
open Go Go.Aw Go.Proofs
theorem p64 : (2 : Int) ^ IntKind.u64.bits = 18446744073709551616 := by decide
theorem getD_drop {α : Type} (l : List α) (d : α) (i : Int) (h0 : 0 ≤ i) (h1 : i < l.length) : l.drop i.toNat = l.getD i.toNat d :: l.drop (i + 1).toNat := by
  have h2 : i.toNat < l.length := by omega
  rw [List.drop_eq_getElem_cons h2, show (i + 1).toNat = i.toNat + 1 by omega]
  simp [List.getD, List.getElem?_eq_getElem h2]
theorem pow256 (n : Nat) : (2 : Int) ^ (8 * n) = 256 ^ n := by rw [Int.pow_mul]; rfl
theorem pow256_le {n : Nat} (h : n ≤ 8) : (256 : Int) ^ n ≤ 18446744073709551616 := by
  have h1 : 256 ^ n ≤ 256 ^ 8 := Nat.pow_le_pow_right (by decide) h
  have h2 : ((256 ^ n : Nat) : Int) ≤ ((256 ^ 8 : Nat) : Int) := by omega
  rw [Int.natCast_pow] at h2
  exact Int.le_trans h2 (by decide)
def okField (f : Field) : Bool := decide (1 ≤ f.Size ∧ f.Size ≤ 8 ∧ f.Value < 256 ^ f.Size.toNat)
def putL (out : List Int) : List Field → List Int × Int
  | [] => (out, 0)
  | f :: l => bif okField f then putL (out ++ num8 f.Size.toNat f.Value) l else ([], 5)
def hasF (fs : List Field) : Prop := ∀ f ∈ fs, 0 ≤ f.Value ∧ f.Value < 18446744073709551616
theorem num8_step (v : Int) (k : Int) (h0 : 0 ≤ k) (n : Nat) : num8 (n + 1) (v / 256 ^ k.toNat) = v / 256 ^ k.toNat % 256 :: num8 n (v / 256 ^ (k + 1).toNat) := by
  rw [num8, show (k + 1).toNat = k.toNat + 1 by omega, Int.pow_succ, Int.ediv_ediv_of_nonneg (Int.le_of_lt (Int.pow_pos (by decide)))]
theorem shr_byte (v k : Int) (h0 : 0 ≤ k) (h1 : k ≤ 8) : shrK IntKind.u64 v (IntKind.wrap IntKind.i64 ((8 : Int) * k)) = v / 256 ^ k.toNat := by
  rw [wi64 _ (by omega) (by omega), shr_eq v (by omega) (by simp only [IntKind.bits]; omega), show (8 * k).toNat = 8 * k.toNat by omega, pow256]
theorem oPut_igo (fields : List Field) (i : Int) (out : List Int) (h1 : (fields.getD i.toNat Field.zero).Size ≤ 8) : ∀ (n : Nat) (k : Int) (o2 : List Int), 0 ≤ k → k ≤ (fields.getD i.toNat Field.zero).Size → ((fields.getD i.toNat Field.zero).Size - k).toNat < n →
    (oPut.igo fields i out n k o2).2 = o2 ++ num8 ((fields.getD i.toNat Field.zero).Size - k).toNat ((fields.getD i.toNat Field.zero).Value / 256 ^ k.toNat)
  | 0, k, o2, h0, h2, h3 => by omega
  | n + 1, k, o2, h0, h2, h3 => by
    unfold oPut.igo
    by_cases hk : k < (fields.getD i.toNat Field.zero).Size
    · simp only [hk, decide_true, cond_true]
      rw [wi64 (k + (1 : Int)) (by omega) (by omega), oPut_igo fields i out h1 n (k + 1) _ (by omega) (by omega) (by omega), shr_byte _ k h0 (by omega), wu8m]
      have e : ((fields.getD i.toNat Field.zero).Size - k).toNat = ((fields.getD i.toNat Field.zero).Size - (k + 1)).toNat + 1 := by omega
      rw [e, num8_step _ k h0, List.append_assoc, List.singleton_append]
    · simp only [hk, decide_false, cond_false]
      rw [show ((fields.getD i.toNat Field.zero).Size - k).toNat = 0 by omega]
      simp [num8]
theorem lt_shr {v : Int} {k : Nat} (h0 : 0 ≤ v) : (v / 256 ^ k != 0) = !decide (v < 256 ^ k) := by
  have hp : (0 : Int) < 256 ^ k := Int.pow_pos (by decide)
  by_cases h : v < 256 ^ k
  · rw [Int.ediv_eq_zero_of_lt h0 h]; simp [h]
  · have h1 : 1 ≤ v / 256 ^ k := by rw [Int.le_ediv_iff_mul_le hp]; omega
    simp only [h, decide_false, Bool.not_false, bne_iff_ne, ne_eq]; omega
theorem oPut_cond (f : Field) (h0 : 0 ≤ f.Value) (h1 : f.Value < 18446744073709551616) : (bif !sized f.Size then true else bif decide (f.Size < (8 : Int)) then shrK IntKind.u64 f.Value (IntKind.wrap IntKind.i64 ((8 : Int) * f.Size)) != (0 : Int) else false) = !okField f := by
  unfold okField
  cases hs : sized f.Size
  · have : ¬ (1 ≤ f.Size ∧ f.Size ≤ 8) := by rw [← sized_iff]; simp [hs]
    have h2 : ¬ (1 ≤ f.Size ∧ f.Size ≤ 8 ∧ f.Value < 256 ^ f.Size.toNat) := fun h => this ⟨h.1, h.2.1⟩
    simp [h2]
  · have hs' : 1 ≤ f.Size ∧ f.Size ≤ 8 := by rw [← sized_iff]; exact hs
    simp only [Bool.not_true, cond_false]
    by_cases h8 : f.Size < 8
    · simp only [h8, decide_true, cond_true]
      rw [shr_byte _ _ (by omega) (by omega), lt_shr h0]
      simp [hs']
    · have e : f.Size = 8 := by omega
      simp only [h8, decide_false, cond_false]
      rw [e]
      simp [h1]
theorem oPut_go (fields : List Field) (hf : hasF fields) (hl : fields.length ≤ 1099511627776) : ∀ (n : Nat) (i : Int) (out : List Int), 0 ≤ i → i ≤ fields.length → (fields.length - i).toNat < n → oPut.go fields n i out = putL out (fields.drop i.toNat)
  | 0, i, out, h0, h1, h2 => by omega
  | n + 1, i, out, h0, h1, h2 => by
    unfold oPut.go
    by_cases hi : i < fields.length
    · have hm : fields.getD i.toNat Field.zero ∈ fields := by
        have h3 : i.toNat < fields.length := by omega
        simp [List.getD, List.getElem?_eq_getElem h3]
      obtain ⟨v0, v1⟩ := hf _ hm
      rw [getD_drop fields Field.zero i h0 hi, putL]
      simp only [hi, decide_true, cond_true]
      rw [oPut_cond _ v0 v1]
      cases hk : okField (fields.getD i.toNat Field.zero)
      · simp
      · have hk' : 1 ≤ (fields.getD i.toNat Field.zero).Size ∧ (fields.getD i.toNat Field.zero).Size ≤ 8 := by
          have := of_decide_eq_true hk; exact ⟨this.1, this.2.1⟩
        simp only [Bool.not_true, cond_false, cond_true]
        rw [wi64 (i + (1 : Int)) (by omega) (by omega), oPut_igo fields i out hk'.2 _ 0 out (by omega) (by omega) (by omega), oPut_go fields hf hl n (i + 1) _ (by omega) (by omega) (by omega)]
        simp
    · simp only [hi, decide_false, cond_false]
      rw [List.drop_of_length_le (by omega), putL]
theorem oPut_eq (fields : List Field) (hf : hasF fields) (hl : fields.length ≤ 1099511627776) : oPut fields = putL [] fields := by
  unfold oPut
  rw [oPut_go fields hf hl _ 0 [] (by omega) (by omega) (by omega)]; rfl
theorem oPut_go_len (fields : List Field) (hl : fields.length ≤ 1099511627776) : ∀ (n : Nat) (i : Int) (out : List Int), 0 ≤ i → i ≤ fields.length → (fields.length - i).toNat < n → ((oPut.go fields n i out).1.length : Int) ≤ out.length + 8 * (fields.length - i)
  | 0, i, out, h0, h1, h2 => by omega
  | n + 1, i, out, h0, h1, h2 => by
    unfold oPut.go
    by_cases hi : i < fields.length
    · simp only [hi, decide_true, cond_true]
      cases hs : sized (fields.getD i.toNat Field.zero).Size
      · simp; omega
      · have hs' : 1 ≤ (fields.getD i.toNat Field.zero).Size ∧ (fields.getD i.toNat Field.zero).Size ≤ 8 := by rw [← sized_iff]; exact hs
        have h3 := oPut_igo fields i out hs'.2 ((fields.getD i.toNat Field.zero).Size.toNat + 1) 0 out (by omega) (by omega) (by omega)
        simp only [Bool.not_true, cond_false]
        cases (bif decide ((fields.getD i.toNat Field.zero).Size < (8 : Int)) then shrK IntKind.u64 (fields.getD i.toNat Field.zero).Value (IntKind.wrap IntKind.i64 ((8 : Int) * (fields.getD i.toNat Field.zero).Size)) != (0 : Int) else false)
        · simp only [cond_false]
          rw [h3, wi64 (i + (1 : Int)) (by omega) (by omega)]
          have := oPut_go_len fields hl n (i + 1) (out ++ num8 ((fields.getD i.toNat Field.zero).Size - 0).toNat ((fields.getD i.toNat Field.zero).Value / 256 ^ (0 : Int).toNat)) (by omega) (by omega) (by omega)
          rw [List.length_append, num8_len] at this
          omega
        · simp; omega
    · simp only [hi, decide_false, cond_false]; omega
theorem oPut_len (fields : List Field) (hl : fields.length ≤ 1099511627776) : (oPut fields).1.length ≤ 8 * fields.length := by
  have := oPut_go_len fields hl (fields.length + 1) 0 [] (by omega) (by omega) (by omega)
  unfold oPut
  simp only [List.length_nil] at this
  omega
def takeL (c out : List Int) : List Int → List Int × List Int × Int
  | [] => (out, c, 0)
  | s :: l => takeL (c.drop s.toNat) (out ++ [val8 (c.take s.toNat)]) l
def okSize (s : Int) : Bool := decide (1 ≤ s ∧ s ≤ 8)
def takeA (b sizes : List Int) : List Int × List Int × Int := bif sizes.all okSize then (bif decide ((b.length : Int) < sizes.sum) then ([], [], 3) else takeL b [] sizes) else ([], [], 5)
theorem val8_take (c : List Int) (k : Int) (h0 : 0 ≤ k) (h1 : k < c.length) : val8 (c.take (k + 1).toNat) = val8 (c.take k.toNat) + c.getD k.toNat 0 * 256 ^ k.toNat := by
  have h2 : k.toNat < c.length := by omega
  rw [show (k + 1).toNat = k.toNat + 1 by omega, List.take_add_one, val8_append, List.length_take, Nat.min_eq_left (by omega)]
  simp [List.getD, h2, val8, Int.mul_comm]
theorem val8_lt (c : List Int) (hc : Bytes c) (n : Nat) (hn : n ≤ 8) : 0 ≤ val8 (c.take n) ∧ val8 (c.take n) < 256 ^ n ∧ val8 (c.take n) < 18446744073709551616 := by
  have h := val8_bound (c.take n) (hc.take n)
  have h1 : (256 : Int) ^ (c.take n).length ≤ 256 ^ n := by
    have h2 : 256 ^ (c.take n).length ≤ 256 ^ n := Nat.pow_le_pow_right (by decide) (by rw [List.length_take]; omega)
    have h3 : ((256 ^ (c.take n).length : Nat) : Int) ≤ ((256 ^ n : Nat) : Int) := by omega
    rw [Int.natCast_pow, Int.natCast_pow] at h3; exact h3
  have h4 := pow256_le hn
  omega
theorem byte_or (c : List Int) (hc : Bytes c) (k : Int) (h0 : 0 ≤ k) (h1 : k < c.length) (h2 : k < 8) : borK IntKind.u64 (val8 (c.take k.toNat)) (shlK IntKind.u64 (IntKind.wrap IntKind.u64 (c.getD k.toNat 0)) (IntKind.wrap IntKind.i64 ((8 : Int) * k))) = val8 (c.take (k + 1).toNat) := by
  have hb := hc.getD k.toNat
  have h3 := val8_lt c hc k.toNat (by omega)
  have h4 := val8_lt c hc (k + 1).toNat (by omega)
  rw [val8_take c k h0 h1] at h4 ⊢
  rw [wi64 _ (by omega) (by omega), wu64 _ (by omega) (by omega), shl_eq rfl _ (by omega) (by simp only [IntKind.bits]; omega), show (8 * k).toNat = 8 * k.toNat by omega, p64]
  have hnn : 0 ≤ c.getD k.toNat 0 * 256 ^ k.toNat := Int.mul_nonneg hb.1 (Int.le_of_lt (Int.pow_pos (by decide)))
  rw [pow256, Int.emod_eq_of_lt hnn (by omega), ← pow256]
  exact bor_add rfl h3.1 (by rw [pow256]; exact h3.2.1) hb.1 (by rw [pow256, p64]; omega) (by simp only [IntKind.bits]; omega)
theorem oTake_igo (b sizes : List Int) (j : Int) (c out : List Int) (hc : Bytes c) (h8 : sizes.getD j.toNat 0 ≤ 8) (hl : sizes.getD j.toNat 0 ≤ c.length) : ∀ (n : Nat) (k : Int), 0 ≤ k → k ≤ sizes.getD j.toNat 0 → (sizes.getD j.toNat 0 - k).toNat < n →
    (oTake.igo b sizes j c out n k (val8 (c.take k.toNat))).2 = val8 (c.take (sizes.getD j.toNat 0).toNat)
  | 0, k, h0, h1, h2 => by omega
  | n + 1, k, h0, h1, h2 => by
    unfold oTake.igo
    by_cases hk : k < sizes.getD j.toNat 0
    · simp only [hk, decide_true, cond_true]
      rw [byte_or c hc k h0 (by omega) (by omega), wi64 (k + (1 : Int)) (by omega) (by omega)]
      exact oTake_igo b sizes j c out hc h8 hl n (k + 1) (by omega) (by omega) (by omega)
    · simp only [hk, decide_false, cond_false]
      rw [show k = sizes.getD j.toNat 0 by omega]
theorem oJoin_one (c : List Int) : oJoin [c] = c := by
  simp [oJoin, oJoin.go]
  rw [wi64 1 (by omega) (by omega)]; simp
theorem sum_take_nn {l : List Int} (h : l.all okSize = true) : 0 ≤ l.sum := by
  induction l with
  | nil => simp
  | cons a l ih =>
    simp only [List.all_cons, Bool.and_eq_true] at h
    have := of_decide_eq_true h.1
    have := ih h.2
    rw [List.sum_cons]; omega
theorem all_drop {l : List Int} (h : l.all okSize = true) (n : Nat) : (l.drop n).all okSize = true := by
  rw [List.all_eq_true] at h ⊢
  exact fun x hx => h x (List.mem_of_mem_drop hx)
theorem take_step (sizes : List Int) (ha : sizes.all okSize = true) (j : Int) (h0 : 0 ≤ j) (h1 : j < sizes.length) (c : List Int) (hs : (sizes.drop j.toNat).sum ≤ c.length) :
    1 ≤ sizes.getD j.toNat 0 ∧ sizes.getD j.toNat 0 ≤ 8 ∧ sizes.getD j.toNat 0 ≤ c.length ∧ (sizes.drop (j + 1).toNat).sum ≤ (c.drop (sizes.getD j.toNat 0).toNat).length := by
  have hm : sizes.getD j.toNat 0 ∈ sizes := by
    have h3 : j.toNat < sizes.length := by omega
    simp [List.getD, List.getElem?_eq_getElem h3]
  have h2 := of_decide_eq_true ((List.all_eq_true.1 ha) _ hm)
  have h3 := sum_take_nn (all_drop ha (j + 1).toNat)
  rw [getD_drop sizes 0 j h0 h1, List.sum_cons] at hs
  rw [List.length_drop]
  omega
theorem oTake_go2 (b sizes : List Int) (ha : sizes.all okSize = true) (hz : sizes.length ≤ 1099511627776) : ∀ (n : Nat) (j : Int) (c out : List Int), Bytes c → 0 ≤ j → j ≤ sizes.length → (sizes.length - j).toNat < n → (sizes.drop j.toNat).sum ≤ c.length → oTake.go2 b sizes n j c out = takeL c out (sizes.drop j.toNat)
  | 0, j, c, out, hc, h0, h1, h2, h3 => by omega
  | n + 1, j, c, out, hc, h0, h1, h2, h3 => by
    unfold oTake.go2
    by_cases hj : j < sizes.length
    · simp only [hj, decide_true, cond_true]
      obtain ⟨s1, s2, s3, s4⟩ := take_step sizes ha j h0 hj c h3
      rw [wi64 (j + (1 : Int)) (by omega) (by omega), show List.take (Int.toNat (c.length : Int)) c = c from by simp]
      have := oTake_igo b sizes j c out hc s2 s3 ((sizes.getD j.toNat 0).toNat + 1) 0 (by omega) (by omega) (by omega)
      rw [show val8 (c.take (0 : Int).toNat) = 0 from by simp [val8]] at this
      rw [this, oTake_go2 b sizes ha hz n (j + 1) _ _ (hc.drop _) (by omega) (by omega) (by omega) s4, getD_drop sizes 0 j h0 hj, takeL]
    · simp only [hj, decide_false, cond_false]
      rw [List.drop_of_length_le (by omega), takeL, oJoin_one]
theorem sum_le {l : List Int} (h : l.all okSize = true) : l.sum ≤ 8 * l.length := by
  induction l with
  | nil => simp
  | cons a l ih =>
    simp only [List.all_cons, Bool.and_eq_true] at h
    have := of_decide_eq_true h.1
    have := ih h.2
    rw [List.sum_cons, List.length_cons]; omega
theorem sumTake' (l : List Int) (i : Int) (h0 : 0 ≤ i) (h : i < l.length) : (l.take (i + 1).toNat).sum = (l.take i.toNat).sum + l.getD i.toNat 0 := by
  have h1 : i.toNat < l.length := by omega
  have h2 : (i + 1).toNat = i.toNat + 1 := by omega
  rw [h2, List.take_add_one, List.sum_append]
  simp [List.getD, h1]
theorem all_take_step {sizes : List Int} {i : Int} (h0 : 0 ≤ i) (h1 : i < sizes.length) (h : (sizes.take i.toNat).all okSize = true) : (sizes.take (i + 1).toNat).all okSize = okSize (sizes.getD i.toNat 0) := by
  have h2 : i.toNat < sizes.length := by omega
  rw [show (i + 1).toNat = i.toNat + 1 by omega, List.take_add_one, List.all_append, h]
  simp [List.getD, h2]
theorem all_split (sizes : List Int) (n : Nat) (h : (sizes.take n).all okSize = false) : sizes.all okSize = false := by
  rw [← List.take_append_drop n sizes, List.all_append, h]; rfl
theorem oTake_go1 (b sizes : List Int) (hb : Bytes b) (hz : sizes.length ≤ 1099511627776) : ∀ (n : Nat) (i : Int), 0 ≤ i → i ≤ sizes.length → (sizes.length - i).toNat < n → (sizes.take i.toNat).all okSize = true → oTake.go1 b sizes n i (sizes.take i.toNat).sum = takeA b sizes
  | 0, i, h0, h1, h2, h3 => by omega
  | n + 1, i, h0, h1, h2, h3 => by
    unfold oTake.go1
    by_cases hi : i < sizes.length
    · simp only [hi, decide_true, cond_true]
      have hst := all_take_step h0 hi h3
      have e : sized (sizes.getD i.toNat 0) = okSize (sizes.getD i.toNat 0) := by
        unfold okSize
        rw [Bool.eq_iff_iff, decide_eq_true_eq, sized_iff]
      rw [e]
      cases hk : okSize (sizes.getD i.toNat 0)
      · rw [hk] at hst
        simp [takeA, all_split sizes _ hst]
      · rw [hk] at hst
        have h5 := of_decide_eq_true hk
        have h6 := sum_le hst
        have h7 := sum_take_nn h3
        rw [sumTake' sizes i h0 hi, List.length_take] at h6
        simp only [Bool.not_true, cond_false]
        rw [wi64 (i + (1 : Int)) (by omega) (by omega), wi64 _ (by omega) (by omega), ← sumTake' sizes i h0 hi]
        exact oTake_go1 b sizes hb hz n (i + 1) (by omega) (by omega) (by omega) hst
    · simp only [hi, decide_false, cond_false]
      have ei : i.toNat = sizes.length := by omega
      rw [ei, List.take_length] at h3 ⊢
      unfold takeA
      rw [h3, cond_true]
      by_cases hl : (b.length : Int) < sizes.sum
      · simp [hl]
      · simp only [hl, decide_false, cond_false]
        exact oTake_go2 b sizes h3 hz _ 0 b [] hb (by omega) (by omega) (by omega) (by simp; omega)
theorem oTake_eq (b sizes : List Int) (hb : Bytes b) (hz : sizes.length ≤ 1099511627776) : oTake b sizes = takeA b sizes := oTake_go1 b sizes hb hz _ 0 (by omega) (by omega) (by omega) rfl
theorem takeL_spec : ∀ (sizes c out : List Int), ∃ l r, takeL c out sizes = (out ++ l, r, 0) ∧ takeL c [] sizes = (l, r, 0)
  | [], c, out => ⟨[], c, by simp [takeL], by simp [takeL]⟩
  | s :: sizes, c, out => by
    obtain ⟨l, r, h1, h2⟩ := takeL_spec sizes (c.drop s.toNat) (out ++ [val8 (c.take s.toNat)])
    obtain ⟨l', r', h3, h4⟩ := takeL_spec sizes (c.drop s.toNat) ([] ++ [val8 (c.take s.toNat)])
    rw [h2] at h4
    cases h4
    exact ⟨val8 (c.take s.toNat) :: l, r, by simp [takeL, h1], by rw [takeL, h3]; simp⟩
theorem putL_spec : ∀ (fs : List Field) (out : List Int), fs.all okField = true → putL out fs = (out ++ fs.flatMap fun f => num8 f.Size.toNat f.Value, 0)
  | [], out, _ => by simp [putL]
  | f :: fs, out, h => by
    simp only [List.all_cons, Bool.and_eq_true] at h
    rw [putL, h.1, cond_true, putL_spec fs _ h.2]
    simp
theorem putL_fail : ∀ (fs : List Field) (out : List Int), fs.all okField = false → putL out fs = ([], 5)
  | [], out, h => by simp at h
  | f :: fs, out, h => by
    rw [putL]
    cases hk : okField f
    · rfl
    · simp only [List.all_cons, hk, Bool.true_and] at h
      rw [cond_true, putL_fail fs _ h]
theorem take_put : ∀ (fs : List Field) (out rest : List Int), fs.all okField = true → hasF fs → takeL ((fs.flatMap fun f => num8 f.Size.toNat f.Value) ++ rest) out (fs.map (·.Size)) = (out ++ fs.map (·.Value), rest, 0)
  | [], out, rest, _, _ => by simp [takeL]
  | f :: fs, out, rest, h, hf => by
    simp only [List.all_cons, Bool.and_eq_true] at h
    have h1 := of_decide_eq_true h.1
    have h2 := hf f (by simp)
    have hl : (num8 f.Size.toNat f.Value).length = f.Size.toNat := num8_len _ _
    rw [List.map_cons, takeL, List.flatMap_cons, List.append_assoc, List.drop_append_of_le_length (by omega), List.drop_of_length_le (by omega), List.take_append_of_le_length (by omega), List.take_of_length_le (by omega), List.nil_append]
    rw [take_put fs _ rest h.2 fun g hg => hf g (by simp [hg]), val8_num8, Int.emod_eq_of_lt h2.1 h1.2.2]
    simp
theorem put_len : ∀ (fs : List Field), fs.all okField = true → ((fs.flatMap fun f => num8 f.Size.toNat f.Value).length : Int) = (fs.map (·.Size)).sum
  | [], _ => by simp
  | f :: fs, h => by
    simp only [List.all_cons, Bool.and_eq_true] at h
    have h1 := of_decide_eq_true h.1
    rw [List.flatMap_cons, List.length_append, num8_len, List.map_cons, List.sum_cons, ← put_len fs h.2]
    omega
theorem put_take : ∀ (sizes c : List Int), Bytes c → sizes.all okSize = true → sizes.sum ≤ c.length → ∀ l r, takeL c [] sizes = (l, r, 0) →
    l.length = sizes.length ∧ ((List.zipWith (fun s v => (⟨s, v⟩ : Field)) sizes l).flatMap fun f => num8 f.Size.toNat f.Value) ++ r = c ∧ (List.zipWith (fun s v => (⟨s, v⟩ : Field)) sizes l).all okField = true ∧ (∀ k, 0 ≤ l.getD k 0 ∧ l.getD k 0 < 256 ^ (sizes.getD k 0).toNat)
  | [], c, hc, h, hs, l, r, he => by
    simp only [takeL, Prod.mk.injEq] at he
    obtain ⟨rfl, rfl, _⟩ := he
    exact ⟨rfl, by simp, by simp, fun k => by simp⟩
  | s :: sizes, c, hc, h, hs, l, r, he => by
    simp only [List.all_cons, Bool.and_eq_true] at h
    have h1 := of_decide_eq_true h.1
    rw [List.sum_cons] at hs
    have hn := sum_take_nn h.2
    obtain ⟨l', r', e1, e2⟩ := takeL_spec sizes (c.drop s.toNat) ([] ++ [val8 (c.take s.toNat)])
    rw [takeL, e1] at he
    simp only [List.nil_append, List.singleton_append, Prod.mk.injEq, and_true] at he
    obtain ⟨rfl, rfl⟩ := he
    obtain ⟨p1, p2, p3, p4⟩ := put_take sizes (c.drop s.toNat) (hc.drop _) h.2 (by rw [List.length_drop]; omega) l' r' e2
    have hb := val8_lt c hc s.toNat (by omega)
    have hlen : (c.take s.toNat).length = s.toNat := by rw [List.length_take]; omega
    have e3 : num8 s.toNat (val8 (c.take s.toNat)) = c.take s.toNat := by
      have := num8_val8 (c.take s.toNat) (hc.take _)
      rwa [hlen] at this
    refine ⟨by simp [p1], ?_, ?_, fun k => ?_⟩
    · rw [List.zipWith_cons_cons, List.flatMap_cons, List.append_assoc, p2, e3, List.take_append_drop]
    · rw [List.zipWith_cons_cons, List.all_cons, p3, Bool.and_true]
      exact decide_eq_true ⟨h1.1, h1.2, hb.2.1⟩
    · cases k with
      | zero => simpa using ⟨hb.1, hb.2.1⟩
      | succ k => simpa using p4 k
end Go.Aw.W
