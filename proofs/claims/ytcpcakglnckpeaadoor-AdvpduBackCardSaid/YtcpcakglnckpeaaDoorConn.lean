/- The plain laws of connection parameters: checks, bytes, back and forth (own work). -/
import Derived.Test.YtcpcakglnckpeaaDoorOct
import Derived.Test.YtcpcakglnckpeaaDoorBits
import Derived.Test.YtcpcakglnckpeaaDoorW9
set_option linter.unusedVariables false
namespace Go.Aw.W
open Go Go.Aw Go.Proofs
theorem cwithin_go (all : List ConnectSpan) (hl : all.length ≤ 4611686018427387904) : ∀ (n : Nat) (i : Int), 0 ≤ i → i ≤ all.length → (all.length - i).toNat < n → cwithin.go all n i = (all.drop i.toNat).all fun x => r17within x.n x.low x.high
  | 0, i, h0, h1, h2 => by omega
  | n + 1, i, h0, h1, h2 => by
    unfold cwithin.go
    by_cases hi : i < all.length
    · have hlt : i.toNat < all.length := by omega
      simp only [hi, decide_true, cond_true]
      rw [wi64 (i + (1 : Int)) (by omega) (by omega), cwithin_go all hl n (i + 1) (by omega) (by omega) (by omega), List.drop_eq_getElem_cons hlt, List.all_cons]
      have e : all.getD i.toNat ConnectSpan.zero = all[i.toNat] := by simp [List.getD, List.getElem?_eq_getElem hlt]
      have e2 : (i + 1).toNat = i.toNat + 1 := by omega
      rw [e, e2]
      unfold r17within
      by_cases a : all[i.toNat].n < all[i.toNat].low
      · have a2 : ¬ all[i.toNat].low ≤ all[i.toNat].n := by omega
        simp [a, a2]
      · have a2 : all[i.toNat].low ≤ all[i.toNat].n := by omega
        by_cases b : all[i.toNat].high < all[i.toNat].n
        · have b2 : ¬ all[i.toNat].n ≤ all[i.toNat].high := by omega
          simp [a, a2, b, b2]
        · have b2 : all[i.toNat].n ≤ all[i.toNat].high := by omega
          simp [a, a2, b, b2]
    · simp only [hi, decide_false, cond_false]
      rw [List.drop_of_length_le (by omega)]
      rfl
theorem cwithin_eq (all : List ConnectSpan) (hl : all.length ≤ 4611686018427387904) : cwithin all = all.all fun x => r17within x.n x.low x.high := by
  unfold cwithin
  rw [cwithin_go all hl _ _ (by omega) (by omega) (by omega)]
  rfl
theorem checkUpdate_eq (u : Update) : cCheckUpdate u = r17CheckUpdate u := by
  unfold cCheckUpdate r17CheckUpdate
  rw [cwithin_eq _ (by simp)]
  simp only [List.all_cons, List.all_nil]
  generalize r17within u.WinSize 1 8 = a
  generalize r17within u.WinOffset 0 3200 = b
  generalize r17within u.Interval 6 3200 = c
  generalize r17within u.Latency 0 499 = d
  generalize r17within u.Timeout 10 3200 = e
  cases a <;> cases b <;> cases c <;> cases d <;> cases e <;> rfl
theorem check_eq (p : ConnParams) (hk : kCheck p.Map = r12Check p.Map) : cCheck p = r17Check p := by
  unfold cCheck r17Check
  rw [cwithin_eq _ (by simp), hk, checkUpdate_eq]
  simp only [List.all_cons, List.all_nil]
  generalize r17within p.Hop 5 16 = a
  generalize r17within p.PPM 0 500 = b
  cases a <;> cases b <;> rfl

/-! The count of bits. -/
def cntB : Nat → Nat → Nat
  | 0, _ => 0
  | n + 1, x => x % 2 + cntB n (x / 2)
theorem cntB_add : ∀ (a b x : Nat), cntB (a + b) x = cntB a x + cntB b (x / 2 ^ a)
  | 0, b, x => by simp [cntB]
  | a + 1, b, x => by
    rw [show a + 1 + b = (a + b) + 1 by omega, cntB, cntB_add a b, cntB, Nat.div_div_eq_div_mul, Nat.pow_succ, Nat.mul_comm 2 (2 ^ a)]; omega
theorem cntB_zero : ∀ n, cntB n 0 = 0
  | 0 => rfl
  | n + 1 => by simp [cntB, cntB_zero n]
theorem pc_cnt (x : Nat) : pc (x % 256) = cntB 8 x := by
  rw [pc_bits _ (by omega)]
  simp only [cntB]
  omega
theorem ones_cnt (x : Nat) (hx : x < 18446744073709551616) : ones x = (cntB 64 x : Nat) := by
  rw [ones_nat x hx]
  have e : ∀ n y, cntB (8 + n) y = pc (y % 256) + cntB n (y / 256) := fun n y => by rw [cntB_add, pc_cnt]
  have e8 : ∀ y, cntB 8 y = pc (y % 256) := fun y => (pc_cnt y).symm
  have h64 : cntB 64 x = pc (x % 256) + (pc (x / 256 % 256) + (pc (x / 256 / 256 % 256) + (pc (x / 256 / 256 / 256 % 256) + (pc (x / 256 / 256 / 256 / 256 % 256) + (pc (x / 256 / 256 / 256 / 256 / 256 % 256) + (pc (x / 256 / 256 / 256 / 256 / 256 / 256 % 256) + pc (x / 256 / 256 / 256 / 256 / 256 / 256 / 256 % 256))))))) := by
    rw [show (64 : Nat) = 8 + 56 from rfl, e, show (56 : Nat) = 8 + 48 from rfl, e, show (48 : Nat) = 8 + 40 from rfl, e, show (40 : Nat) = 8 + 32 from rfl, e, show (32 : Nat) = 8 + 24 from rfl, e, show (24 : Nat) = 8 + 16 from rfl, e, show (16 : Nat) = 8 + 8 from rfl, e, e8]
  rw [h64]
  simp only [Nat.add_assoc]
theorem r12Has_eq (m i : Int) (h0 : 0 ≤ m) (h1 : m < 18446744073709551616) (i0 : 0 ≤ i) (i1 : i ≤ 36) : r12Has m i = decide (m / 2 ^ i.toNat % 2 = 1) := by
  unfold r12Has
  rw [decide_eq_true i0, decide_eq_true i1, r1Power_eq i0 (by omega), Int.tdiv_eq_ediv_of_nonneg h0]
  have hp : (0 : Int) < 2 ^ i.toNat := Int.pow_pos (by decide)
  have h2 : 0 ≤ m / 2 ^ i.toNat := Int.ediv_nonneg h0 (by omega)
  have h3 : m / 2 ^ i.toNat ≤ m := Int.ediv_le_self _ h0
  rw [wu64 _ h2 (by omega), Int.tmod_eq_emod_of_nonneg h2]
  simp only [cond_true]
  rw [Bool.eq_iff_iff]; simp
theorem r12List_go (m : Nat) (hm : m < 18446744073709551616) : ∀ (n : Nat) (i : Int) (out : List Int), 0 ≤ i → i ≤ 37 → (37 - i).toNat < n → (r12List.go (m : Int) n i out).length = out.length + cntB (37 - i).toNat (m / 2 ^ i.toNat)
  | 0, i, out, h0, h1, h2 => by omega
  | n + 1, i, out, h0, h1, h2 => by
    unfold r12List.go
    by_cases hi : i ≤ 36
    · simp only [hi, decide_true, cond_true]
      rw [wi64 (i + (1 : Int)) (by omega) (by omega), r12Has_eq (m : Int) i (by omega) (by omega) h0 hi]
      have e1 : (37 - i).toNat = (37 - (i + 1)).toNat + 1 := by omega
      have e2 : m / 2 ^ i.toNat / 2 = m / 2 ^ (i + 1).toNat := by rw [Nat.div_div_eq_div_mul, ← Nat.pow_succ, show (i + 1).toNat = i.toNat + 1 by omega]
      have e3 : ((m : Int) / 2 ^ i.toNat % 2 = 1) ↔ m / 2 ^ i.toNat % 2 = 1 := by
        rw [show (2 : Int) ^ i.toNat = ((2 ^ i.toNat : Nat) : Int) by simp, ← Int.natCast_ediv]; omega
      rw [e1, cntB, e2]
      by_cases hb : m / 2 ^ i.toNat % 2 = 1
      · simp only [e3.2 hb, decide_true, cond_true]
        rw [r12List_go m hm n (i + 1) _ (by omega) (by omega) (by omega), List.length_append, List.length_singleton, hb]; omega
      · have hb' : m / 2 ^ i.toNat % 2 = 0 := by omega
        simp only [mt e3.1 hb, decide_false, cond_false]
        rw [r12List_go m hm n (i + 1) _ (by omega) (by omega) (by omega), hb']; omega
    · simp only [hi, decide_false, cond_false]
      rw [show (37 - i).toNat = 0 by omega]; simp [cntB]
theorem r12Count_eq (m : Nat) (hm : m < 18446744073709551616) : r12Count (m : Int) = (cntB 37 m : Nat) := by
  unfold r12Count r12List
  rw [r12List_go m hm _ 0 [] (by omega) (by omega) (by omega)]
  simp
theorem kCheck_eq (m : Int) (h0 : 0 ≤ m) (h1 : m < 18446744073709551616) : kCheck m = r12Check m := by
  obtain ⟨x, rfl⟩ := Int.eq_ofNat_of_zero_le h0
  unfold kCheck r12Check kOnes
  rw [bclr_low (n := 37) rfl h0 (by rw [p64]; exact h1) (by decide) (by decide), band_low (n := 37) rfl h0 (by rw [p64]; exact h1) (by decide) (by decide)]
  have hp : r1Power 37 = 137438953472 := by rw [r1Power_eq (by decide) (by decide)]; decide
  rw [hp, show (2 : Int) ^ 37 = 137438953472 by decide]
  by_cases hx : (137438953472 : Int) ≤ x
  · have h3 : ((x : Int) - x % 137438953472 != 0) = true := by simp only [bne_iff_ne, ne_eq]; omega
    rw [h3, decide_eq_true hx]; rfl
  · have e : (x : Int) % 137438953472 = x := by omega
    rw [e, Int.sub_self, ones_cnt x (by omega), r12Count_eq x (by omega)]
    have h2 : cntB 64 x = cntB 37 x := by
      rw [show 64 = 37 + 27 from rfl, cntB_add, Nat.div_eq_of_lt (by omega), cntB_zero]; omega
    rw [h2]
    simp [hx]

/-! Encode -/
theorem wu64_i64 (n : Int) : IntKind.wrap IntKind.u64 (IntKind.wrap IntKind.i64 n) = IntKind.wrap IntKind.u64 n := by
  simp [IntKind.wrap, IntKind.bits, IntKind.signed]; omega
@[reducible] def cflds (p : ConnParams) : List Field := [cField (4 : Int) (IntKind.wrap IntKind.i64 p.Access), cField (3 : Int) (IntKind.wrap IntKind.i64 p.Init), cField (1 : Int) p.Update.WinSize, cField (2 : Int) p.Update.WinOffset, cField (2 : Int) p.Update.Interval,
      cField (2 : Int) p.Update.Latency, cField (2 : Int) p.Update.Timeout, cField (5 : Int) (IntKind.wrap IntKind.i64 p.Map), cField (1 : Int) p.Hop, cField (2 : Int) p.PPM, cField (1 : Int) p.Algorithm]
theorem has_cflds (p : ConnParams) : hasF (cflds p) := by
  intro f hf
  have key : ∀ f ∈ cflds p, ∃ n, f.Value = IntKind.wrap IntKind.u64 n := by
    intro f hf
    simp only [cflds, cField, List.mem_cons, List.not_mem_nil, or_false] at hf
    rcases hf with rfl | rfl | rfl | rfl | rfl | rfl | rfl | rfl | rfl | rfl | rfl <;> exact ⟨_, rfl⟩
  obtain ⟨n, hn⟩ := key f hf
  rw [hn, wu64m]; omega
def okMap (p : ConnParams) : Prop := 0 ≤ p.Map ∧ p.Map < 18446744073709551616
theorem fields_eq (p : ConnParams) (h : okMap p) : cflds p = r17fields p := by
  unfold cflds cField r17fields
  simp only [wu64_i64]
  rw [wu64 p.Map h.1 h.2]
theorem has_fields (p : ConnParams) (h : okMap p) : hasF (r17fields p) := by rw [← fields_eq p h]; exact has_cflds p
theorem check_same (p : ConnParams) (h : okMap p) : cCheck p = r17Check p := check_eq p (kCheck_eq _ h.1 h.2)
theorem encode_same (p : ConnParams) (h : okMap p) : cEncode p = r17Encode p := by
  unfold cEncode r17Encode
  rw [check_same p h, show [cField (4 : Int) (IntKind.wrap IntKind.i64 p.Access), cField (3 : Int) (IntKind.wrap IntKind.i64 p.Init), cField (1 : Int) p.Update.WinSize, cField (2 : Int) p.Update.WinOffset, cField (2 : Int) p.Update.Interval, cField (2 : Int) p.Update.Latency, cField (2 : Int) p.Update.Timeout, cField (5 : Int) (IntKind.wrap IntKind.i64 p.Map), cField (1 : Int) p.Hop, cField (2 : Int) p.PPM, cField (1 : Int) p.Algorithm] = r17fields p from fields_eq p h, put_same _ (has_fields p h) (by simp [r17fields])]
theorem putL_len (fs : List Field) (out : List Int) : ((putL out fs).1.length : Int) ≤ out.length + 8 * fs.length := by
  induction fs generalizing out with
  | nil => simp [putL]
  | cons f fs ih =>
    rw [putL]
    cases hk : okField f
    · simp; omega
    · rw [cond_true]
      have h1 := of_decide_eq_true hk
      have := ih (out ++ num8 f.Size.toNat f.Value)
      rw [List.length_append, num8_len] at this
      simp only [List.length_cons]; omega

/-! Decode -/
@[reducible] def sz17 : List Int := [4, 3, 1, 2, 2, 2, 2, 5, 1, 2, 1]
def parse17 (l : List Int) : ConnParams := ⟨IntKind.wrap IntKind.u32 (l.getD 0 0), IntKind.wrap IntKind.u32 (l.getD 1 0), ⟨IntKind.wrap IntKind.i64 (l.getD 2 0), IntKind.wrap IntKind.i64 (l.getD 3 0), IntKind.wrap IntKind.i64 (l.getD 4 0), IntKind.wrap IntKind.i64 (l.getD 5 0), IntKind.wrap IntKind.i64 (l.getD 6 0)⟩,
  l.getD 7 0, IntKind.wrap IntKind.i64 (l.getD 8 0), IntKind.wrap IntKind.i64 (l.getD 9 0), IntKind.wrap IntKind.i64 (l.getD 10 0)⟩
def decode17 (chk : ConnParams → Int) (t : List Int × List Int × Int) : ConnParams × Int :=
  cond (t.2.2 != 0) (ConnParams.zero, t.2.2) (cond (decide (0 < (t.2.1.length : Int))) (ConnParams.zero, 2) (cond (chk (parse17 t.1) != 0) (ConnParams.zero, chk (parse17 t.1)) (parse17 t.1, 0)))
theorem cDecode_eq (b : List Int) : cDecode b = decode17 cCheck (oTake b sz17) := by
  unfold cDecode decode17 parse17; rfl
theorem r17Decode_eq (b : List Int) : r17Decode b = decode17 r17Check (r2Take b sz17) := by
  unfold r17Decode decode17 parse17; rfl
theorem takeA_bound (b sizes : List Int) (hb : Bytes b) (k : Nat) : 0 ≤ (takeA b sizes).1.getD k 0 ∧ (takeA b sizes).1.getD k 0 < 18446744073709551616 := by
  unfold takeA
  cases ha : sizes.all okSize
  · simp
  · rw [cond_true]
    by_cases hs : (b.length : Int) < sizes.sum
    · simp [hs]
    · simp only [hs, decide_false, cond_false]
      obtain ⟨l, r, _, ht⟩ := takeL_spec sizes b []
      obtain ⟨p1, _, _, p4⟩ := put_take sizes b hb ha (by omega) l r ht
      rw [ht]
      have h1 := p4 k
      have h2 : (sizes.getD k 0).toNat ≤ 8 := by
        by_cases hk : k < sizes.length
        · have := of_decide_eq_true ((List.all_eq_true.1 ha) (sizes.getD k 0) (by simp [List.getD, List.getElem?_eq_getElem hk])); omega
        · simp [List.getD, List.getElem?_eq_none (Nat.le_of_not_lt hk)]
      have h3 := pow256_le h2
      dsimp only
      omega
theorem decode_same (b : List Int) (hb : Bytes b) : cDecode b = r17Decode b := by
  rw [cDecode_eq, r17Decode_eq, oTake_eq _ _ hb (by decide), r2Take_eq _ _ hb (by decide)]
  unfold decode17
  rw [check_same _ (show okMap (parse17 (takeA b sz17).1) from takeA_bound b sz17 hb 7)]
theorem same_refl (b : List Int) : r2Same b b = true := by unfold r2Same strEq; simp

/-! Back and forth. -/
theorem within_iff (n l h : Int) : (r17within n l h = true) = (l ≤ n ∧ n ≤ h) := by
  unfold r17within
  by_cases a : l ≤ n <;> simp [a]
theorem checkUpdate_ok (u : Update) (h : r17CheckUpdate u = 0) : 1 ≤ u.WinSize ∧ u.WinSize ≤ 8 ∧ 0 ≤ u.WinOffset ∧ u.WinOffset ≤ 3200 ∧ 6 ≤ u.Interval ∧ u.Interval ≤ 3200 ∧ 0 ≤ u.Latency ∧ u.Latency ≤ 499 ∧ 10 ≤ u.Timeout ∧ u.Timeout ≤ 3200 := by
  have h1 := within_iff u.WinSize 1 8
  have h2 := within_iff u.WinOffset 0 3200
  have h3 := within_iff u.Interval 6 3200
  have h4 := within_iff u.Latency 0 499
  have h5 := within_iff u.Timeout 10 3200
  unfold r17CheckUpdate at h
  generalize r17within u.WinSize 1 8 = a at *
  generalize r17within u.WinOffset 0 3200 = b at *
  generalize r17within u.Interval 6 3200 = c at *
  generalize r17within u.Latency 0 499 = d at *
  generalize r17within u.Timeout 10 3200 = e at *
  cases a <;> cases b <;> cases c <;> cases d <;> cases e <;> simp at h h1 h2 h3 h4 h5
  exact ⟨h1.1, h1.2, h2.1, h2.2, h3.1, h3.2, h4.1, h4.2, h5.1, h5.2⟩
theorem r12Check_ok (m : Int) (h : r12Check m = 0) : m < 137438953472 := by
  unfold r12Check at h
  have hp : r1Power 37 = 137438953472 := by rw [r1Power_eq (by decide) (by decide)]; decide
  rw [hp] at h
  by_cases hx : (137438953472 : Int) ≤ m
  · simp [hx] at h
  · omega
structure OkP (p : ConnParams) : Prop where
  init : p.Init < 16777216
  u : r17CheckUpdate p.Update = 0
  m : p.Map < 137438953472
  hop : 5 ≤ p.Hop ∧ p.Hop ≤ 16
  ppm : 0 ≤ p.PPM ∧ p.PPM ≤ 500
  alg : p.Algorithm = 1 ∨ p.Algorithm = 2
theorem check_ok (p : ConnParams) (h : r17Check p = 0) : OkP p := by
  have h5 := within_iff p.Hop 5 16
  have h6 := within_iff p.PPM 0 500
  unfold r17Check at h
  generalize r17within p.Hop 5 16 = a at *
  generalize r17within p.PPM 0 500 = b at *
  cases hA : (bif p.Access == (0 : Int) then true else p.Access == (2391391958 : Int)) <;> rw [hA] at h
  · simp only [cond_false] at h
    by_cases hi : (16777216 : Int) ≤ p.Init
    · simp [hi] at h
    · simp only [hi, decide_false, cond_false] at h
      by_cases hu : r17CheckUpdate p.Update = 0
      · simp only [hu, bne_self_eq_false, cond_false] at h
        by_cases hm : r12Check p.Map = 0
        · simp only [hm, bne_self_eq_false, cond_false] at h
          cases a <;> cases b <;> simp at h h5 h6
          refine ⟨by omega, hu, r12Check_ok _ hm, h5, h6, ?_⟩
          by_cases a1 : p.Algorithm = 1
          · exact .inl a1
          · by_cases a2 : p.Algorithm = 2
            · exact .inr a2
            · have e : (p.Algorithm != 1) = true := by simp [a1]
              have e2 : (p.Algorithm != 2) = true := by simp [a2]
              simp [e, e2] at h
        · have e : (r12Check p.Map != 0) = true := by simp [hm]
          rw [e, cond_true] at h; exact absurd h hm
      · have e : (r17CheckUpdate p.Update != 0) = true := by simp [hu]
        rw [e, cond_true] at h; exact absurd h hu
  · simp at h
def HasP (p : ConnParams) : Prop := 0 ≤ p.Access ∧ p.Access < 4294967296 ∧ 0 ≤ p.Init ∧ 0 ≤ p.Map ∧ p.Map < 18446744073709551616
theorem HasP.map {p : ConnParams} (h : HasP p) : okMap p := h.2.2.2
theorem okFields (p : ConnParams) (hp : HasP p) (h : OkP p) : (r17fields p).all okField = true := by
  obtain ⟨q1, q2, q3, q4, q5⟩ := hp
  obtain ⟨u1, u2, u3, u4, u5, u6, u7, u8, u9, u10⟩ := checkUpdate_ok _ h.u
  obtain ⟨h1, _, h3, h4, h5, h6⟩ := h
  unfold r17fields
  have e : ∀ s v : Int, ∀ n : Nat, s = n → 1 ≤ n → n ≤ 8 → 0 ≤ v → v < 256 ^ n → okField { Size := s, Value := v } = true := by
    intro s v n hs hn hn8 h0 hlt
    subst hs
    unfold okField
    simp only [Int.toNat_natCast]
    exact decide_eq_true ⟨by omega, by omega, hlt⟩
  simp only [List.all_cons, List.all_nil, Bool.and_true, Bool.and_eq_true]
  rw [wu64 p.Access (by omega) (by omega), wu64 p.Init (by omega) (by omega), wu64 p.Update.WinSize (by omega) (by omega), wu64 p.Update.WinOffset (by omega) (by omega), wu64 p.Update.Interval (by omega) (by omega), wu64 p.Update.Latency (by omega) (by omega), wu64 p.Update.Timeout (by omega) (by omega), wu64 p.Hop (by omega) (by omega), wu64 p.PPM (by omega) (by omega), wu64 p.Algorithm (by omega) (by omega)]
  refine ⟨e _ _ 4 rfl ?_ ?_ ?_ ?_, e _ _ 3 rfl ?_ ?_ ?_ ?_, e _ _ 1 rfl ?_ ?_ ?_ ?_, e _ _ 2 rfl ?_ ?_ ?_ ?_, e _ _ 2 rfl ?_ ?_ ?_ ?_, e _ _ 2 rfl ?_ ?_ ?_ ?_, e _ _ 2 rfl ?_ ?_ ?_ ?_, e _ _ 5 rfl ?_ ?_ ?_ ?_, e _ _ 1 rfl ?_ ?_ ?_ ?_, e _ _ 2 rfl ?_ ?_ ?_ ?_, e _ _ 1 rfl ?_ ?_ ?_ ?_⟩ <;> omega
theorem takeA_put (p : ConnParams) (hp : HasP p) (h : OkP p) : takeA ((r17fields p).flatMap fun f => num8 f.Size.toNat f.Value) sz17 = ((r17fields p).map (·.Value), [], 0) := by
  have hk := okFields p hp h
  have hl := put_len _ hk
  have hs : (r17fields p).map (·.Size) = sz17 := rfl
  have ht := take_put (r17fields p) [] [] hk (has_fields p hp.map)
  rw [hs] at hl ht
  unfold takeA
  rw [show sz17.all okSize = true by decide, cond_true, hl]
  rw [List.append_nil, List.nil_append] at ht
  simp only [Int.lt_irrefl, decide_false, cond_false]
  exact ht
theorem parse_fields (p : ConnParams) (hp : HasP p) (h : OkP p) : parse17 ((r17fields p).map (·.Value)) = p := by
  obtain ⟨q1, q2, q3, q4, q5⟩ := hp
  obtain ⟨u1, u2, u3, u4, u5, u6, u7, u8, u9, u10⟩ := checkUpdate_ok _ h.u
  obtain ⟨h1, _, h3, h4, h5, h6⟩ := h
  obtain ⟨pA, pI, ⟨w1, w2, w3, w4, w5⟩, pM, pH, pP, pG⟩ := p
  dsimp only at *
  simp only [parse17, r17fields, List.map_cons, List.map_nil, List.getD_cons_zero, List.getD_cons_succ]
  have e3 : ∀ n, 0 ≤ n → n < 4294967296 → IntKind.wrap IntKind.u32 (IntKind.wrap IntKind.u64 n) = n := fun n a b => by rw [wu64 n a (by omega), wu32m]; omega
  have e6 : ∀ n, 0 ≤ n → n < 4294967296 → IntKind.wrap IntKind.i64 (IntKind.wrap IntKind.u64 n) = n := fun n a b => by rw [wu64 n a (by omega), wi64]; omega; omega
  rw [e3 pA (by omega) (by omega), e3 pI (by omega) (by omega), e6 w1 (by omega) (by omega), e6 w2 (by omega) (by omega), e6 w3 (by omega) (by omega), e6 w4 (by omega) (by omega), e6 w5 (by omega) (by omega), e6 pH (by omega) (by omega), e6 pP (by omega) (by omega), e6 pG (by omega) (by omega)]
theorem encode_ok (p : ConnParams) (hp : HasP p) (h : cCheck p = 0) : cEncode p = ((r17fields p).flatMap fun f => num8 f.Size.toNat f.Value, 0) := by
  have hk := check_ok p ((check_same p hp.2.2.2).symm.trans h)
  unfold cEncode
  rw [show [cField (4 : Int) (IntKind.wrap IntKind.i64 p.Access), cField (3 : Int) (IntKind.wrap IntKind.i64 p.Init), cField (1 : Int) p.Update.WinSize, cField (2 : Int) p.Update.WinOffset, cField (2 : Int) p.Update.Interval, cField (2 : Int) p.Update.Latency, cField (2 : Int) p.Update.Timeout, cField (5 : Int) (IntKind.wrap IntKind.i64 p.Map), cField (1 : Int) p.Hop, cField (2 : Int) p.PPM, cField (1 : Int) p.Algorithm] = r17fields p from fields_eq p hp.map, oPut_eq _ (has_fields p hp.map) (by simp [r17fields]), h, putL_spec _ _ (okFields p hp hk)]
  simp
theorem encode_err (p : ConnParams) (h : cCheck p ≠ 0) : cEncode p = ([], cCheck p) := by
  unfold cEncode
  have e : (cCheck p != 0) = true := by simp [h]
  rw [e, cond_true]
theorem encode_zero (p : ConnParams) (h : (cEncode p).2 = 0) : cCheck p = 0 := by
  by_cases hc : cCheck p = 0
  · exact hc
  · rw [encode_err p hc] at h; exact h
theorem back1 (p : ConnParams) (hp : HasP p) (h : (cEncode p).2 = 0) : cDecode (cEncode p).1 = (p, 0) := by
  have hc := encode_zero p h
  have hk := check_ok p ((check_same p hp.2.2.2).symm.trans hc)
  rw [encode_ok p hp hc, cDecode_eq, oTake_eq _ _ (fun x hx => by
    obtain ⟨f, _, hf⟩ := List.mem_flatMap.1 hx
    exact num8_bytes _ _ x hf) (by decide), takeA_put p hp hk]
  unfold decode17
  rw [parse_fields p hp hk, hc]
  simp
theorem decode_cases (b : List Int) (hb : Bytes b) : ((cDecode b).2 ≠ 0 ∧ (cDecode b).1 = ConnParams.zero) ∨ ∃ l, takeL b [] sz17 = (l, [], 0) ∧ sz17.sum ≤ b.length ∧ cDecode b = (parse17 l, 0) ∧ cCheck (parse17 l) = 0 := by
  rw [cDecode_eq, oTake_eq _ _ hb (by decide)]
  unfold takeA
  rw [show sz17.all okSize = true by decide, cond_true]
  by_cases hs : (b.length : Int) < sz17.sum
  · left; simp only [hs, decide_true, cond_true, decode17]; simp
  · simp only [hs, decide_false, cond_false]
    obtain ⟨l, r, _, ht⟩ := takeL_spec sz17 b []
    rw [ht]
    unfold decode17
    dsimp only
    simp only [bne_self_eq_false, cond_false]
    by_cases hr : 0 < (r.length : Int)
    · left
      rw [decide_eq_true hr]; simp
    · simp only [hr, decide_false, cond_false]
      have : r = [] := List.eq_nil_of_length_eq_zero (by omega)
      subst this
      by_cases hc : cCheck (parse17 l) = 0
      · right; exact ⟨l, rfl, by omega, by simp [hc], hc⟩
      · left
        have e : (cCheck (parse17 l) != 0) = true := by simp [hc]
        rw [e, cond_true]; exact ⟨hc, rfl⟩
theorem fields_parse (l : List Int) (hl : l.length = 11) (hb : ∀ k, 0 ≤ l.getD k 0 ∧ l.getD k 0 < 256 ^ (sz17.getD k 0).toNat) : r17fields (parse17 l) = List.zipWith (fun s v => (⟨s, v⟩ : Field)) sz17 l := by
  match l, hl with
  | [a0, a1, a2, a3, a4, a5, a6, a7, a8, a9, a10], _ =>
    have b0 := hb 0; have b1 := hb 1; have b2 := hb 2; have b3 := hb 3; have b4 := hb 4; have b5 := hb 5; have b6 := hb 6; have b7 := hb 7; have b8 := hb 8; have b9 := hb 9; have b10 := hb 10
    simp at b0 b1 b2 b3 b4 b5 b6 b7 b8 b9 b10
    simp only [r17fields, parse17, List.getD_cons_zero, List.getD_cons_succ, List.zipWith_cons_cons, List.zipWith_nil_left]
    have e3 : ∀ n, 0 ≤ n → n < 4294967296 → IntKind.wrap IntKind.u64 (IntKind.wrap IntKind.u32 n) = n := fun n a b => by rw [wu32m, wu64]; omega; omega; omega
    have e6 : ∀ n, 0 ≤ n → n < 4294967296 → IntKind.wrap IntKind.u64 (IntKind.wrap IntKind.i64 n) = n := fun n a b => by rw [wi64 n (by omega) (by omega), wu64 n a (by omega)]
    rw [e3 a0 (by omega) (by omega), e3 a1 (by omega) (by omega), e6 a2 (by omega) (by omega), e6 a3 (by omega) (by omega), e6 a4 (by omega) (by omega), e6 a5 (by omega) (by omega), e6 a6 (by omega) (by omega), e6 a8 (by omega) (by omega), e6 a9 (by omega) (by omega), e6 a10 (by omega) (by omega)]
theorem parse_has (l : List Int) (h : 0 ≤ l.getD 7 0 ∧ l.getD 7 0 < 18446744073709551616) : HasP (parse17 l) := by
  unfold HasP parse17; dsimp only; rw [wu32m, wu32m]; omega
theorem back2 (b : List Int) (hb : Bytes b) (h : (cDecode b).2 = 0) : cEncode (cDecode b).1 = (b, 0) := by
  rcases decode_cases b hb with ⟨h1, _⟩ | ⟨l, h1, h2, h3, h4⟩
  · exact absurd h h1
  · obtain ⟨p1, p2, p3, p4⟩ := put_take sz17 b hb (by decide) h2 l [] h1
    have h7 := p4 7
    rw [show (256 : Int) ^ (sz17.getD 7 0).toNat = 1099511627776 from by decide] at h7
    rw [h3, encode_ok _ (parse_has l (by omega)) h4, fields_parse l (by rw [p1]; rfl) p4]
    rw [List.append_nil] at p2
    rw [p2]
theorem back3 (b : List Int) (hb : Bytes b) (h : (cDecode b).2 ≠ 0) : (cDecode b).1 = ConnParams.zero := by
  rcases decode_cases b hb with ⟨_, h1⟩ | ⟨l, h1, h2, h3, h4⟩
  · exact h1
  · rw [h3] at h; exact absurd rfl h
end Go.Aw.W
