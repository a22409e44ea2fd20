/- The plain laws of the windows of chapter 17. -/
import Derived.Test.YtkngobfkfleacaaW15
import Derived.Test.YtkngobfkfleacaaP3
import Derived.Test.YtkngobfkfleacaaOp
set_option linter.unusedVariables false
namespace Go.Aw.W
open Go Go.Aw Go.Proofs

theorem lim_id {n l h : Int} (h0 : l ≤ n) (h1 : n ≤ h) : r17limited n l h = n := by
  unfold r17limited; rw [minI_eq, maxI_eq]; omega
structure OkC (c : Clock) : Prop where
  p0 : -500 ≤ c.PPM
  p1 : c.PPM ≤ 500
  s0 : 0 ≤ c.Start
  s1 : c.Start ≤ 1099511627776
theorem clock_ok {c : Clock} (h : r11Check c = 0) : OkC c := by
  unfold r11Check at h
  by_cases a : c.PPM < -500
  · simp [a] at h
  · by_cases b : 500 < c.PPM
    · simp [a, b] at h
    · by_cases d : c.Start < 0
      · simp [a, b, d] at h
      · by_cases e : 1099511627776 < c.Start
        · simp [a, b, d, e] at h
        · exact ⟨by omega, by omega, by omega, by omega⟩
theorem mul_le_c {t p T P : Int} (t0 : 0 ≤ t) (tT : t ≤ T) (p0 : -P ≤ p) (p1 : p ≤ P) (hP : 0 ≤ P) : -(T * P) ≤ t * p ∧ t * p ≤ T * P ∧ -(t * P) ≤ t * p ∧ t * p ≤ t * P := by
  have h1 : t * p ≤ t * P := Int.mul_le_mul_of_nonneg_left p1 t0
  have h2 : t * (-P) ≤ t * p := Int.mul_le_mul_of_nonneg_left p0 t0
  have h3 : t * P ≤ T * P := Int.mul_le_mul_of_nonneg_right tT hP
  rw [Int.mul_neg] at h2
  omega
/-- What a clock shows. -/
theorem local_spec {c : Clock} (hc : OkC c) {t : Int} (t0 : 0 ≤ t) (t1 : t ≤ 1099511627776) : ∃ g, kLocal c t = c.Start + t + g ∧ 1000000 * g ≤ t * c.PPM ∧ t * c.PPM < 1000000 * g + 1000000 := by
  obtain ⟨p0, p1, s0, s1⟩ := hc
  unfold kLocal
  rw [klimit_eq _ _ _ (by omega), klimit_eq _ _ _ (by omega), klimit_eq _ _ _ (by omega), lim_id t0 t1, lim_id p0 p1, lim_id s0 s1]
  have hb := mul_le_c t0 t1 p0 p1 (by omega)
  generalize t * c.PPM = X at *
  rw [wi64 X (by omega) (by omega)]
  have h1 := Int.mul_tdiv_add_tmod X 1000000
  have h2 := tmod_b X (show (0 : Int) < 1000000 by omega)
  generalize X.tdiv 1000000 = q at *
  generalize X.tmod 1000000 = r at *
  by_cases hr : r < 0
  · refine ⟨q - 1, ?_, by omega, by omega⟩
    simp only [hr, decide_true, cond_true]
    simp (disch := omega) only [wi64]
    try omega
  · refine ⟨q, ?_, by omega, by omega⟩
    simp only [hr, decide_false, cond_false]
    simp (disch := omega) only [wi64]
theorem real_go (c : Clock) (l : Int) : ∀ (n : Nat) (low high : Int), 0 ≤ low → low ≤ high → high ≤ 1099511627776 → (∃ m : Nat, n = m + 1 ∧ high - low < (2 : Int) ^ m) → (low = 0 ∨ kLocal c (low - 1) < l) → (high = 1099511627776 ∨ l ≤ kLocal c high) →
    0 ≤ kReal.go c l n low high ∧ kReal.go c l n low high ≤ 1099511627776 ∧ (kReal.go c l n low high = 0 ∨ kLocal c (kReal.go c l n low high - 1) < l) ∧ (kReal.go c l n low high = 1099511627776 ∨ l ≤ kLocal c (kReal.go c l n low high))
  | 0, low, high, h0, h1, h2, h3, h4, h5 => by obtain ⟨m, h, _⟩ := h3; omega
  | n + 1, low, high, h0, h1, h2, h3, h4, h5 => by
    unfold kReal.go
    by_cases hlt : low < high
    · obtain ⟨m, e, r4⟩ := h3
      obtain ⟨k, rfl⟩ : ∃ k, m = k + 1 := by
        cases m with
        | zero => exfalso; simp at r4; omega
        | succ k => exact ⟨k, rfl⟩
      rw [Int.pow_succ] at r4
      simp only [hlt, decide_true, cond_true]
      rw [wi64 (low + high) (by omega) (by omega), Int.tdiv_eq_ediv_of_nonneg (by omega), wi64 ((low + high) / 2) (by omega) (by omega)]
      by_cases hr : l ≤ kLocal c ((low + high) / 2)
      · simp only [hr, decide_true, cond_true]
        exact real_go c l n low ((low + high) / 2) h0 (by omega) (by omega) ⟨k, by omega, by omega⟩ h4 (.inr hr)
      · simp only [hr, decide_false, cond_false]
        rw [wi64 ((low + high) / 2 + 1) (by omega) (by omega)]
        exact real_go c l n ((low + high) / 2 + 1) high (by omega) (by omega) h2 ⟨k, by omega, by omega⟩ (.inr (by rw [show (low + high) / 2 + 1 - 1 = (low + high) / 2 by omega]; omega)) h5
    · simp only [hlt, decide_false, cond_false]
      have : low = high := by omega
      exact ⟨h0, by omega, h4, by rw [this]; exact h5⟩
theorem real_spec (c : Clock) (l : Int) : 0 ≤ kReal c l ∧ kReal c l ≤ 1099511627776 ∧ (kReal c l = 0 ∨ kLocal c (kReal c l - 1) < l) ∧ (kReal c l = 1099511627776 ∨ l ≤ kLocal c (kReal c l)) :=
  real_go c l 42 0 1099511627776 (by omega) (by omega) (by omega) ⟨41, rfl, by decide⟩ (.inl rfl) (.inl rfl)
theorem widen_val {ppm span : Int} (p0 : 0 ≤ ppm) (p1 : ppm ≤ 1000) (s0 : 0 ≤ span) (s1 : span ≤ 1099511627776) : kWidening ppm span = (span * ppm + 999999) / 1000000 + 32 := by
  unfold kWidening
  rw [klimit_eq _ _ _ (by omega), klimit_eq _ _ _ (by omega), lim_id p0 p1, lim_id s0 s1]
  have h3 := mul_b s0 s1 p0 p1
  generalize span * ppm = X at *
  rw [wi64 X (by omega) (by omega), wi64 (X + 1000000) (by omega) (by omega), wi64 (X + 1000000 - 1) (by omega) (by omega), Int.tdiv_eq_ediv_of_nonneg (by omega)]
  rw [wi64 ((X + 1000000 - 1) / 1000000) (by omega) (by omega), wi64 _ (by omega) (by omega)]
  omega
def absI (n : Int) : Int := max n (-n)
theorem dev_val {a b : Clock} (ha : OkC a) (hb : OkC b) {more : Int} (hm : IntKind.has .i64 more) : absI a.PPM + absI b.PPM ≤ deviation a b more ∧ deviation a b more ≤ 1000 := by
  obtain ⟨a0, a1, _, _⟩ := ha
  obtain ⟨b0, b1, _, _⟩ := hb
  have hm : -9223372036854775808 ≤ more ∧ more ≤ 9223372036854775807 := by simpa [IntKind.has, IntKind.min, IntKind.max, IntKind.bits, IntKind.signed] using hm
  unfold deviation absI
  rw [wi64 (0 - a.PPM) (by omega) (by omega), wi64 (0 - b.PPM) (by omega) (by omega)]
  simp only [maxI_eq, minI_eq]
  rw [wi64 (max a.PPM (0 - a.PPM) + max b.PPM (0 - b.PPM)) (by omega) (by omega), wi64 (1000 - (max a.PPM (0 - a.PPM) + max b.PPM (0 - b.PPM))) (by omega) (by omega), wi64 _ (by omega) (by omega)]
  omega
/-- The heart: from the time t on, one clock advances by at least d; then the other advances by nearly as much. -/
theorem near {a b : Clock} (ha : OkC a) (hb : OkC b) {dev : Int} (hd : absI a.PPM + absI b.PPM ≤ dev) (hd1 : dev ≤ 1000) {t d D : Int} (t0 : 0 ≤ t) (t1 : t ≤ 1099511627776) (d0 : 2 ≤ d) (dD : d ≤ D) (d1 : D ≤ 36100000)
    (h : kReal a (kLocal a t + d) < 1099511627776) : kLocal b t + d - ((D * dev + 999999) / 1000000 + 32) < kLocal b (kReal a (kLocal a t + d)) ∧ kLocal b (kReal a (kLocal a t + d)) < kLocal b t + d + ((D * dev + 999999) / 1000000 + 32) := by
  obtain ⟨r0, r1, r2, r3⟩ := real_spec a (kLocal a t + d)
  generalize hs : kReal a (kLocal a t + d) = s at *
  have h3 : kLocal a t + d ≤ kLocal a s := by rcases r3 with h3 | h3 <;> omega
  obtain ⟨g1, e1, q1, q2⟩ := local_spec ha t0 t1
  obtain ⟨g2, e2, q3, q4⟩ := local_spec ha r0 r1
  obtain ⟨k1, e3, q5, q6⟩ := local_spec hb t0 t1
  obtain ⟨k2, e4, q7, q8⟩ := local_spec hb r0 r1
  have ea : s * a.PPM = t * a.PPM + (s - t) * a.PPM := by rw [← Int.add_mul]; congr 1; omega
  have eb : s * b.PPM = t * b.PPM + (s - t) * b.PPM := by rw [← Int.add_mul]; congr 1; omega
  rw [ea] at q3 q4
  rw [eb] at q7 q8
  have A : -absI a.PPM ≤ a.PPM ∧ a.PPM ≤ absI a.PPM ∧ 0 ≤ absI a.PPM ∧ absI a.PPM ≤ 500 := by have := ha.p0; have := ha.p1; unfold absI; omega
  have Bb : -absI b.PPM ≤ b.PPM ∧ b.PPM ≤ absI b.PPM ∧ 0 ≤ absI b.PPM ∧ absI b.PPM ≤ 500 := by have := hb.p0; have := hb.p1; unfold absI; omega
  -- the time goes on
  have hpos : t < s := by
    rcases Int.lt_or_le t s with h | h
    · exact h
    · exfalso
      have h4 := mul_le_c (t := t - s) (T := t - s) (p := a.PPM) (P := 500) (by omega) (Int.le_refl _) ha.p0 ha.p1 (by omega)
      have h5 : (s - t) * a.PPM = -((t - s) * a.PPM) := by rw [← Int.neg_mul]; congr 1; omega
      rw [h5] at q3 q4
      generalize (t - s) * a.PPM = Y at *
      generalize t * a.PPM = Z at *
      omega
  have hs0 : 0 ≤ s - t := by omega
  have hA := mul_le_c hs0 (Int.le_refl _) A.1 A.2.1 A.2.2.1
  have hB := mul_le_c hs0 (Int.le_refl _) Bb.1 Bb.2.1 Bb.2.2.1
  have hA5 : (s - t) * absI a.PPM ≤ (s - t) * 500 := Int.mul_le_mul_of_nonneg_left A.2.2.2 hs0
  -- the step before
  have h6 : kLocal a s ≤ kLocal a t + d + 1 := by
    rcases r2 with h2 | h2
    · omega
    · obtain ⟨g3, e5, q9, q10⟩ := local_spec ha (t := s - 1) (by omega) (by omega)
      have e6 : (s - 1) * a.PPM = t * a.PPM + (s - t) * a.PPM - a.PPM := by rw [← ea, Int.sub_mul, Int.one_mul]
      rw [e6] at q9 q10
      have := ha.p0
      have := ha.p1
      generalize (s - t) * a.PPM = Y at *
      generalize t * a.PPM = Z at *
      omega
  have hsum : (s - t) * absI a.PPM + (s - t) * absI b.PPM ≤ (s - t) * dev := by rw [← Int.mul_add]; exact Int.mul_le_mul_of_nonneg_left hd hs0
  have hbig : s - t ≤ D + 18100 := by
    generalize (s - t) * a.PPM = Y at *
    generalize t * a.PPM = Z at *
    generalize (s - t) * absI a.PPM = V at *
    omega
  have hdev : (s - t) * dev ≤ (D + 18100) * dev := Int.mul_le_mul_of_nonneg_right hbig (by omega)
  rw [Int.add_mul] at hdev
  have hX : 0 ≤ D * dev := Int.mul_nonneg (by omega) (by omega)
  generalize D * dev = X at *
  generalize (s - t) * dev = U at *
  generalize (s - t) * a.PPM = Y at *
  generalize (s - t) * b.PPM = Y2 at *
  generalize (s - t) * absI a.PPM = V at *
  generalize (s - t) * absI b.PPM = V2 at *
  generalize t * a.PPM = Z at *
  generalize t * b.PPM = Z2 at *
  omega

structure Ready (a b : Clock) (u : Update) (x : Law17Beat) : Prop where
  a : OkC a
  b : OkC b
  t0 : 0 ≤ x.Time
  t1 : x.Time < 1099511627776
  upd : r17CheckUpdate u = 0
  n0 : 1 ≤ x.N
  n1 : x.N ≤ 65536
  fit : r17Anchor 0 u x.N ≤ r17Timeout u
theorem ready_spec {a b : Clock} {u : Update} {x : Law17Beat} (h : lready a b u x = true) : Ready a b u x := by
  unfold lready at h
  cases h1 : (r11Check a == (0 : Int)) <;> rw [h1] at h <;> simp only [cond_true, cond_false, Bool.false_eq_true] at h
  cases h2 : (r11Check b == (0 : Int)) <;> rw [h2] at h <;> simp only [cond_true, cond_false, Bool.false_eq_true] at h
  cases h3 : (decide ((0 : Int) ≤ x.Time)) <;> rw [h3] at h <;> simp only [cond_true, cond_false, Bool.false_eq_true] at h
  cases h4 : (decide (x.Time < (1099511627776 : Int))) <;> rw [h4] at h <;> simp only [cond_true, cond_false, Bool.false_eq_true] at h
  cases h5 : (r17CheckUpdate u == (0 : Int)) <;> rw [h5] at h <;> simp only [cond_true, cond_false, Bool.false_eq_true] at h
  cases h6 : (decide ((1 : Int) ≤ x.N)) <;> rw [h6] at h <;> simp only [cond_true, cond_false, Bool.false_eq_true] at h
  cases h7 : (decide (x.N ≤ (65536 : Int))) <;> rw [h7] at h <;> simp only [cond_true, cond_false, Bool.false_eq_true] at h
  exact ⟨clock_ok (by simpa using h1), clock_ok (by simpa using h2), of_decide_eq_true h3, of_decide_eq_true h4, by simpa using h5, of_decide_eq_true h6, of_decide_eq_true h7, of_decide_eq_true h⟩
/-- The span of so many intervals. -/
def spanOf (u : Update) (n : Int) : Int := IntKind.wrap IntKind.i64 (r17limited n (1 : Int) (65536 : Int) * r17interval u)
theorem span_b {a b : Clock} {u : Update} {x : Law17Beat} (h : Ready a b u x) : 7500 ≤ spanOf u x.N ∧ spanOf u x.N ≤ 32000000 := by
  obtain ⟨_, _, _, _, hu, n0, n1, fit⟩ := h
  obtain ⟨u1, u2, u3, u4, u5, u6, u7, u8, u9, u10⟩ := checkUpdate_ok _ hu
  have hi : r17interval u = u.Interval * 1250 := by
    unfold r17interval; rw [lim_id u5 u6, wi64 _ (by omega) (by omega)]
  have e0 : r17limited x.N 0 65536 = x.N := lim_id (by omega) n1
  have e1 : r17limited x.N 1 65536 = x.N := lim_id n0 n1
  have hm : x.N * (6 * 1250) ≤ x.N * (u.Interval * 1250) := Int.mul_le_mul_of_nonneg_left (by omega) (by omega)
  have hm2 := mul_b (a := x.N) (b := u.Interval * 1250) (A := 65536) (B := 4000000) (by omega) n1 (by omega) (by omega)
  unfold r17Anchor r17place r17Timeout at fit
  unfold spanOf
  rw [e0, hi, lim_id (by omega) (by omega), lim_id u9 u10] at fit
  rw [e1, hi]
  generalize x.N * (u.Interval * 1250) = X at *
  rw [wi64 X (by omega) (by omega)] at fit ⊢
  rw [wi64 (0 + X) (by omega) (by omega), wi64 (u.Timeout * 10000) (by omega) (by omega)] at fit
  omega
theorem local_b {c : Clock} (hc : OkC c) {t : Int} (t0 : 0 ≤ t) (t1 : t ≤ 1099511627776) : 0 ≤ kLocal c t ∧ kLocal c t ≤ 2200000000000 := by
  obtain ⟨g, e, q1, q2⟩ := local_spec hc t0 t1
  have := mul_le_c t0 t1 hc.p0 hc.p1 (by omega)
  have := hc.s0
  have := hc.s1
  generalize t * c.PPM = X at *
  omega
theorem place_id {t : Int} (h0 : 0 ≤ t) (h1 : t ≤ 2200000000000) : r17place t = t := lim_id h0 (by omega)
theorem connectWindow_true (c : Law17Two) (u : Update) (x : Law17Beat) (b0 : c.has) (b1 : u.has) (b2 : x.has) : connectWindow c u x = true := by
  unfold connectWindow
  cases hr : lready c.A c.B u x
  · rfl
  · have R := ready_spec hr
    have hm : IntKind.has .i64 x.More := b2.2.2.1
    have hs := span_b R
    have hA := local_b R.a R.t0 (Int.le_of_lt R.t1)
    have hB := local_b R.b R.t0 (Int.le_of_lt R.t1)
    have hd := dev_val R.a R.b hm
    have e0 : r17limited x.N 0 65536 = r17limited x.N 1 65536 := by rw [lim_id (by have := R.n0; omega) R.n1, lim_id R.n0 R.n1]
    have eA : cAnchor (kLocal c.A x.Time) u x.N = kLocal c.A x.Time + spanOf u x.N := by
      rw [anchor_eq]
      unfold r17Anchor
      rw [e0, place_id hA.1 hA.2]
      exact wi64 _ (by have := hs.1; unfold spanOf at this; omega) (by have := hs.2; unfold spanOf at this; omega)
    rw [eA, expect_eq]
    simp only [Bool.not_true, cond_false]
    by_cases hb : (1099511627776 : Int) ≤ kReal c.A (kLocal c.A x.Time + spanOf u x.N)
    · simp [hb]
    · simp only [hb, decide_false, cond_false]
      have hdd : absI c.A.PPM + absI c.B.PPM ≤ 1000 := by omega
      have hd0 : 0 ≤ deviation c.A c.B x.More := by have : 0 ≤ absI c.A.PPM := by unfold absI; omega
                                                    have : 0 ≤ absI c.B.PPM := by unfold absI; omega
                                                    omega
      obtain ⟨n1, n2⟩ := near R.a R.b hd.1 hd.2 R.t0 (Int.le_of_lt R.t1) (d := spanOf u x.N) (D := spanOf u x.N) (by omega) (Int.le_refl _) (by omega) (by omega)
      have ew : r11Widening (deviation c.A c.B x.More) (spanOf u x.N) = (spanOf u x.N * deviation c.A c.B x.More + 999999) / 1000000 + 32 := by
        rw [← widening_eq]; exact widen_val hd0 hd.2 (by omega) (by omega)
      have hX := mul_b (a := spanOf u x.N) (b := deviation c.A c.B x.More) (A := 32000000) (B := 1000) (by omega) hs.2 hd0 hd.2
      have eE : r17Expect (kLocal c.B x.Time) x.N u (deviation c.A c.B x.More) = ⟨kLocal c.B x.Time + spanOf u x.N - r11Widening (deviation c.A c.B x.More) (spanOf u x.N), kLocal c.B x.Time + spanOf u x.N + r11Widening (deviation c.A c.B x.More) (spanOf u x.N)⟩ := by
        unfold r17Expect
        rw [place_id hB.1 hB.2]
        change (⟨IntKind.wrap IntKind.i64 (IntKind.wrap IntKind.i64 (kLocal c.B x.Time + spanOf u x.N) - r11Widening (deviation c.A c.B x.More) (spanOf u x.N)), IntKind.wrap IntKind.i64 (IntKind.wrap IntKind.i64 (kLocal c.B x.Time + spanOf u x.N) + r11Widening (deviation c.A c.B x.More) (spanOf u x.N))⟩ : Window) = _
        rw [ew, wi64 (kLocal c.B x.Time + spanOf u x.N) (by omega) (by omega), wi64 _ (by omega) (by omega), wi64 _ (by omega) (by omega)]
      rw [eE, ew]
      dsimp only
      have l1 : kLocal c.B x.Time + spanOf u x.N - ((spanOf u x.N * deviation c.A c.B x.More + 999999) / 1000000 + 32) ≤ kLocal c.B (kReal c.A (kLocal c.A x.Time + spanOf u x.N)) := by omega
      simp [l1, n2]
theorem due_val {a b : Clock} {was now : Update} {x : Law17Beat} (h : Ready a b was x) (hn : r17CheckUpdate now = 0) : 7500 ≤ (r17Due x.N was now).1 ∧ (r17Due x.N was now).1 ≤ 36000000 ∧ 0 ≤ (r17Due x.N was now).2 ∧ (r17Due x.N was now).2 ≤ 10000 := by
  have hs := span_b h
  obtain ⟨u1, u2, u3, u4, u5, u6, u7, u8, u9, u10⟩ := checkUpdate_ok _ hn
  unfold spanOf at hs
  unfold r17Due r17offset r17size
  rw [lim_id u3 u4, lim_id u1 u2]
  generalize IntKind.wrap IntKind.i64 (r17limited x.N (1 : Int) (65536 : Int) * r17interval was) = X at *
  dsimp only
  rw [wi64 (now.WinOffset * 1250) (by omega) (by omega), wi64 (now.WinSize * 1250) (by omega) (by omega), wi64 (X + now.WinOffset * 1250) (by omega) (by omega)]
  omega
theorem connectMoved_true (c : Law17Two) (change : Arr63) (x : Law17Beat) (b0 : c.has) (b1 : change.has) (b2 : x.has) : connectMoved c change x = true := by
  unfold connectMoved
  cases hr : lready c.A c.B change.e0 x
  · rfl
  · by_cases hn : r17CheckUpdate change.e1 = 0
    · by_cases hx0 : x.X < 0
      · simp [hn, hx0]
      · by_cases hx1 : (r17Due x.N change.e0 change.e1).2 < x.X
        · simp [hn, hx0, hx1]
        · have R := ready_spec hr
          have hm : IntKind.has .i64 x.More := b2.2.2.1
          have hA := local_b R.a R.t0 (Int.le_of_lt R.t1)
          have hB := local_b R.b R.t0 (Int.le_of_lt R.t1)
          have hd := dev_val R.a R.b hm
          obtain ⟨d1, d2, z1, z2⟩ := due_val R hn
          have hd0 : 0 ≤ deviation c.A c.B x.More := by have : 0 ≤ absI c.A.PPM := by unfold absI; omega
                                                        have : 0 ≤ absI c.B.PPM := by unfold absI; omega
                                                        omega
          rw [moved_eq]
          simp only [Bool.not_true, hn, bne_self_eq_false, hx0, hx1, decide_false, cond_false]
          have eM : r17Moved (kLocal c.B x.Time) x.N change.e0 change.e1 (deviation c.A c.B x.More) = ⟨kLocal c.B x.Time + (r17Due x.N change.e0 change.e1).1 - ((((r17Due x.N change.e0 change.e1).1 + (r17Due x.N change.e0 change.e1).2) * deviation c.A c.B x.More + 999999) / 1000000 + 32), kLocal c.B x.Time + (r17Due x.N change.e0 change.e1).1 + (r17Due x.N change.e0 change.e1).2 + ((((r17Due x.N change.e0 change.e1).1 + (r17Due x.N change.e0 change.e1).2) * deviation c.A c.B x.More + 999999) / 1000000 + 32)⟩ := by
            unfold r17Moved
            rw [place_id hB.1 hB.2]
            generalize (r17Due x.N change.e0 change.e1).1 = due at *
            generalize (r17Due x.N change.e0 change.e1).2 = size at *
            have hX := mul_b (a := due + size) (b := deviation c.A c.B x.More) (A := 36010000) (B := 1000) (by omega) (by omega) hd0 hd.2
            rw [wi64 (due + size) (by omega) (by omega), ← widening_eq, widen_val hd0 hd.2 (by omega) (by omega)]
            generalize (due + size) * deviation c.A c.B x.More = X at *
            rw [wi64 (kLocal c.B x.Time + due) (by omega) (by omega), wi64 (kLocal c.B x.Time + due + size) (by omega) (by omega), wi64 _ (by omega) (by omega), wi64 _ (by omega) (by omega)]
          rw [eM]
          generalize (r17Due x.N change.e0 change.e1).1 = due at *
          generalize (r17Due x.N change.e0 change.e1).2 = size at *
          rw [wi64 (kLocal c.A x.Time + due) (by omega) (by omega), wi64 (kLocal c.A x.Time + due + x.X) (by omega) (by omega), Int.add_assoc (kLocal c.A x.Time) due x.X]
          by_cases hb : (1099511627776 : Int) ≤ kReal c.A (kLocal c.A x.Time + (due + x.X))
          · simp [hb]
          · simp only [hb, decide_false, cond_false]
            obtain ⟨n1, n2⟩ := near R.a R.b hd.1 hd.2 R.t0 (Int.le_of_lt R.t1) (d := due + x.X) (D := due + size) (by omega) (by omega) (by omega) (by omega)
            generalize kLocal c.B (kReal c.A (kLocal c.A x.Time + (due + x.X))) = heard at *
            generalize ((due + size) * deviation c.A c.B x.More + 999999) / 1000000 + 32 = w at *
            have l1 : kLocal c.B x.Time + due - w ≤ heard := by omega
            have l2 : heard < kLocal c.B x.Time + due + size + w := by omega
            simp [l1, l2]
    · simp [hn]
end Go.Aw.W
