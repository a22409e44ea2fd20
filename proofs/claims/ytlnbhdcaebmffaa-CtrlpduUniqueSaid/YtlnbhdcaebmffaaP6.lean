/- The laws of chapter 26 on bytes (printed by gen26b.py). -/
import Derived.Test.YtlnbhdcaebmffaaP5
set_option linter.unusedVariables false
set_option linter.unusedSimpArgs false
set_option maxRecDepth 8000
namespace Go.Aw.W
open Go Go.Aw Go.Proofs
theorem r23Same_refl (a : List Int) : r23Same a a = true := by unfold r23Same strEq; simp
theorem ok1 {v : Int} (h : v < 256) : okField ⟨1, v⟩ = true := decide_eq_true (show (1 : Int) ≤ 1 ∧ (1 : Int) ≤ 8 ∧ v < 256 ^ (1 : Int).toNat from ⟨by decide, by decide, by simpa using h⟩)
theorem ok2 {v : Int} (h : v < 65536) : okField ⟨2, v⟩ = true := decide_eq_true (show (1 : Int) ≤ 2 ∧ (2 : Int) ≤ 8 ∧ v < 256 ^ (2 : Int).toNat from ⟨by decide, by decide, by show v < 256 ^ 2; omega⟩)
theorem ok5 {v : Int} (h : v < 1099511627776) : okField ⟨5, v⟩ = true := decide_eq_true (show (1 : Int) ≤ 5 ∧ (5 : Int) ≤ 8 ∧ v < 256 ^ (5 : Int).toNat from ⟨by decide, by decide, by show v < 256 ^ 5; omega⟩)
theorem ok8 {v : Int} (h : v < 18446744073709551616) : okField ⟨8, v⟩ = true := decide_eq_true (show (1 : Int) ≤ 8 ∧ (8 : Int) ≤ 8 ∧ v < 256 ^ (8 : Int).toNat from ⟨by decide, by decide, by show v < 256 ^ 8; omega⟩)
theorem hasU {v : Int} (h : IntKind.has .u64 v) : 0 ≤ v ∧ v < 18446744073709551616 := by
  simp [IntKind.has, IntKind.min, IntKind.max, IntKind.bits, IntKind.signed] at h; omega
theorem hasU16 {v : Int} (h : IntKind.has .u16 v) : 0 ≤ v ∧ v < 65536 := by
  simp [IntKind.has, IntKind.min, IntKind.max, IntKind.bits, IntKind.signed] at h; omega
theorem cIn_ok {n lo hi : Int} (h : cIn n lo hi = 0) : lo ≤ n ∧ n ≤ hi := by
  unfold cIn at h
  by_cases h0 : n < lo
  · rw [decide_eq_true h0] at h; exact absurd (show (5 : Int) = 0 from h) (by decide)
  · by_cases h1 : hi < n
    · rw [decide_eq_true h1, decide_eq_false h0] at h; exact absurd (show (5 : Int) = 0 from h) (by decide)
    · omega
theorem cIn_two {a b : Int} (h : maxI (cIn a 0 255) (cIn b 0 255) = 0) : cIn a 0 255 = 0 ∧ cIn b 0 255 = 0 := by
  unfold cIn at h ⊢
  generalize (bif decide (a < 0) then true else decide (255 < a)) = x at *
  generalize (bif decide (b < 0) then true else decide (255 < b)) = y at *
  cases x <;> cases y <;> first | exact ⟨rfl, rfl⟩ | exact absurd h (by decide)
theorem map_ok {m : Int} (hm : IntKind.has .u64 m) (h : kCheck m = 0) : m < 137438953472 := by
  have h1 := hasU hm
  rw [kCheck_eq m h1.1 h1.2] at h
  unfold r12Check at h
  by_cases h0 : r1Power 37 ≤ m
  · rw [decide_eq_true h0] at h; exact absurd (show (5 : Int) = 0 from h) (by decide)
  · rw [show r1Power 37 = 137438953472 by decide] at h0; omega
theorem update_ok {u : Update} (h : cCheckUpdate u = 0) : 1 ≤ u.WinSize ∧ u.WinSize ≤ 8 ∧ 0 ≤ u.WinOffset ∧ u.WinOffset ≤ 3200 ∧ 6 ≤ u.Interval ∧ u.Interval ≤ 3200 ∧ 0 ≤ u.Latency ∧ u.Latency ≤ 499 ∧ 10 ≤ u.Timeout ∧ u.Timeout ≤ 3200 := checkUpdate_ok u (by rw [← checkUpdate_eq]; exact h)
def fldK (c : Control) : List Field := ⟨1, IntKind.wrap .u64 c.Kind⟩ :: zipF (szK c.Kind) (valK c)
section
variable (a b c d e m i r j s k f v l : Int)
theorem fo0 (h : Control.has ⟨0, ⟨a, b, c, d, e⟩, m, i, r, j, s, k, f, v, l⟩) (hz : chkK ⟨0, ⟨a, b, c, d, e⟩, m, i, r, j, s, k, f, v, l⟩ = 0) : (fldK ⟨0, ⟨a, b, c, d, e⟩, m, i, r, j, s, k, f, v, l⟩).all okField = true ∧ hasF (fldK ⟨0, ⟨a, b, c, d, e⟩, m, i, r, j, s, k, f, v, l⟩) := by
  obtain ⟨h0, ⟨ha, hb, hc, hd, he⟩, hm, hi, hr, hj, hs, hk, hf, hv, hl⟩ := h
  show List.all ([⟨1, IntKind.wrap .u64 0⟩, ⟨1, IntKind.wrap .u64 a⟩, ⟨2, IntKind.wrap .u64 b⟩, ⟨2, IntKind.wrap .u64 c⟩, ⟨2, IntKind.wrap .u64 d⟩, ⟨2, IntKind.wrap .u64 e⟩, ⟨2, IntKind.wrap .u64 i⟩] : List Field) okField = true ∧ hasF [⟨1, IntKind.wrap .u64 0⟩, ⟨1, IntKind.wrap .u64 a⟩, ⟨2, IntKind.wrap .u64 b⟩, ⟨2, IntKind.wrap .u64 c⟩, ⟨2, IntKind.wrap .u64 d⟩, ⟨2, IntKind.wrap .u64 e⟩, ⟨2, IntKind.wrap .u64 i⟩]
  obtain ⟨p1, p2, p3, p4, p5, p6, p7, p8, p9, p10⟩ := update_ok (u := ⟨a, b, c, d, e⟩) hz
  dsimp only at p1 p2 p3 p4 p5 p6 p7 p8 p9 p10
  have qi : 0 ≤ i ∧ i < 65536 := hasU16 hi
  rw [wu64 0 (by decide) (by decide), wu64 a (by omega) (by omega), wu64 b (by omega) (by omega), wu64 c (by omega) (by omega), wu64 d (by omega) (by omega), wu64 e (by omega) (by omega), wu64 i (by omega) (by omega)]
  refine ⟨?_, ?_⟩
  · simp only [List.all_cons, List.all_nil, Bool.and_eq_true]
    exact ⟨ok1 (by decide), ok1 (by omega), ok2 (by omega), ok2 (by omega), ok2 (by omega), ok2 (by omega), ok2 (by omega), trivial⟩
  · intro f hf
    simp only [List.mem_cons, List.not_mem_nil, or_false] at hf
    rcases hf with rfl | rfl | rfl | rfl | rfl | rfl | rfl <;> dsimp only <;> omega
theorem fo1 (h : Control.has ⟨1, ⟨a, b, c, d, e⟩, m, i, r, j, s, k, f, v, l⟩) (hz : chkK ⟨1, ⟨a, b, c, d, e⟩, m, i, r, j, s, k, f, v, l⟩ = 0) : (fldK ⟨1, ⟨a, b, c, d, e⟩, m, i, r, j, s, k, f, v, l⟩).all okField = true ∧ hasF (fldK ⟨1, ⟨a, b, c, d, e⟩, m, i, r, j, s, k, f, v, l⟩) := by
  obtain ⟨h0, ⟨ha, hb, hc, hd, he⟩, hm, hi, hr, hj, hs, hk, hf, hv, hl⟩ := h
  show List.all ([⟨1, IntKind.wrap .u64 1⟩, ⟨5, m⟩, ⟨2, IntKind.wrap .u64 i⟩] : List Field) okField = true ∧ hasF [⟨1, IntKind.wrap .u64 1⟩, ⟨5, m⟩, ⟨2, IntKind.wrap .u64 i⟩]
  have p1 : m < 137438953472 := map_ok hm hz
  have qm : 0 ≤ m ∧ m < 18446744073709551616 := hasU hm
  have qi : 0 ≤ i ∧ i < 65536 := hasU16 hi
  rw [wu64 1 (by decide) (by decide), wu64 i (by omega) (by omega)]
  refine ⟨?_, ?_⟩
  · simp only [List.all_cons, List.all_nil, Bool.and_eq_true]
    exact ⟨ok1 (by decide), ok5 (by omega), ok2 (by omega), trivial⟩
  · intro f hf
    simp only [List.mem_cons, List.not_mem_nil, or_false] at hf
    rcases hf with rfl | rfl | rfl <;> dsimp only <;> omega
theorem fo2 (h : Control.has ⟨2, ⟨a, b, c, d, e⟩, m, i, r, j, s, k, f, v, l⟩) (hz : chkK ⟨2, ⟨a, b, c, d, e⟩, m, i, r, j, s, k, f, v, l⟩ = 0) : (fldK ⟨2, ⟨a, b, c, d, e⟩, m, i, r, j, s, k, f, v, l⟩).all okField = true ∧ hasF (fldK ⟨2, ⟨a, b, c, d, e⟩, m, i, r, j, s, k, f, v, l⟩) := by
  obtain ⟨h0, ⟨ha, hb, hc, hd, he⟩, hm, hi, hr, hj, hs, hk, hf, hv, hl⟩ := h
  show List.all ([⟨1, IntKind.wrap .u64 2⟩, ⟨1, IntKind.wrap .u64 r⟩] : List Field) okField = true ∧ hasF [⟨1, IntKind.wrap .u64 2⟩, ⟨1, IntKind.wrap .u64 r⟩]
  have p1 := cIn_ok (n := r) hz
  rw [wu64 2 (by decide) (by decide), wu64 r (by omega) (by omega)]
  refine ⟨?_, ?_⟩
  · simp only [List.all_cons, List.all_nil, Bool.and_eq_true]
    exact ⟨ok1 (by decide), ok1 (by omega), trivial⟩
  · intro f hf
    simp only [List.mem_cons, List.not_mem_nil, or_false] at hf
    rcases hf with rfl | rfl <;> dsimp only <;> omega
theorem fo3 (h : Control.has ⟨3, ⟨a, b, c, d, e⟩, m, i, r, j, s, k, f, v, l⟩) (hz : chkK ⟨3, ⟨a, b, c, d, e⟩, m, i, r, j, s, k, f, v, l⟩ = 0) : (fldK ⟨3, ⟨a, b, c, d, e⟩, m, i, r, j, s, k, f, v, l⟩).all okField = true ∧ hasF (fldK ⟨3, ⟨a, b, c, d, e⟩, m, i, r, j, s, k, f, v, l⟩) := by
  obtain ⟨h0, ⟨ha, hb, hc, hd, he⟩, hm, hi, hr, hj, hs, hk, hf, hv, hl⟩ := h
  show List.all ([⟨1, IntKind.wrap .u64 3⟩, ⟨8, s⟩, ⟨8, k⟩] : List Field) okField = true ∧ hasF [⟨1, IntKind.wrap .u64 3⟩, ⟨8, s⟩, ⟨8, k⟩]
  have qs : 0 ≤ s ∧ s < 18446744073709551616 := hasU hs
  have qk : 0 ≤ k ∧ k < 18446744073709551616 := hasU hk
  rw [wu64 3 (by decide) (by decide)]
  refine ⟨?_, ?_⟩
  · simp only [List.all_cons, List.all_nil, Bool.and_eq_true]
    exact ⟨ok1 (by decide), ok8 (by omega), ok8 (by omega), trivial⟩
  · intro f hf
    simp only [List.mem_cons, List.not_mem_nil, or_false] at hf
    rcases hf with rfl | rfl | rfl <;> dsimp only <;> omega
theorem fo4 (h : Control.has ⟨4, ⟨a, b, c, d, e⟩, m, i, r, j, s, k, f, v, l⟩) (hz : chkK ⟨4, ⟨a, b, c, d, e⟩, m, i, r, j, s, k, f, v, l⟩ = 0) : (fldK ⟨4, ⟨a, b, c, d, e⟩, m, i, r, j, s, k, f, v, l⟩).all okField = true ∧ hasF (fldK ⟨4, ⟨a, b, c, d, e⟩, m, i, r, j, s, k, f, v, l⟩) := by
  obtain ⟨h0, ⟨ha, hb, hc, hd, he⟩, hm, hi, hr, hj, hs, hk, hf, hv, hl⟩ := h
  show List.all ([⟨1, IntKind.wrap .u64 4⟩, ⟨8, s⟩] : List Field) okField = true ∧ hasF [⟨1, IntKind.wrap .u64 4⟩, ⟨8, s⟩]
  have qs : 0 ≤ s ∧ s < 18446744073709551616 := hasU hs
  rw [wu64 4 (by decide) (by decide)]
  refine ⟨?_, ?_⟩
  · simp only [List.all_cons, List.all_nil, Bool.and_eq_true]
    exact ⟨ok1 (by decide), ok8 (by omega), trivial⟩
  · intro f hf
    simp only [List.mem_cons, List.not_mem_nil, or_false] at hf
    rcases hf with rfl | rfl <;> dsimp only <;> omega
theorem fo5 (h : Control.has ⟨5, ⟨a, b, c, d, e⟩, m, i, r, j, s, k, f, v, l⟩) (hz : chkK ⟨5, ⟨a, b, c, d, e⟩, m, i, r, j, s, k, f, v, l⟩ = 0) : (fldK ⟨5, ⟨a, b, c, d, e⟩, m, i, r, j, s, k, f, v, l⟩).all okField = true ∧ hasF (fldK ⟨5, ⟨a, b, c, d, e⟩, m, i, r, j, s, k, f, v, l⟩) := by
  obtain ⟨h0, ⟨ha, hb, hc, hd, he⟩, hm, hi, hr, hj, hs, hk, hf, hv, hl⟩ := h
  show List.all ([⟨1, IntKind.wrap .u64 5⟩] : List Field) okField = true ∧ hasF [⟨1, IntKind.wrap .u64 5⟩]
  rw [wu64 5 (by decide) (by decide)]
  refine ⟨?_, ?_⟩
  · simp only [List.all_cons, List.all_nil, Bool.and_eq_true]
    exact ⟨ok1 (by decide), trivial⟩
  · intro f hf
    simp only [List.mem_cons, List.not_mem_nil, or_false] at hf
    rcases hf with rfl <;> dsimp only <;> omega
theorem fo6 (h : Control.has ⟨6, ⟨a, b, c, d, e⟩, m, i, r, j, s, k, f, v, l⟩) (hz : chkK ⟨6, ⟨a, b, c, d, e⟩, m, i, r, j, s, k, f, v, l⟩ = 0) : (fldK ⟨6, ⟨a, b, c, d, e⟩, m, i, r, j, s, k, f, v, l⟩).all okField = true ∧ hasF (fldK ⟨6, ⟨a, b, c, d, e⟩, m, i, r, j, s, k, f, v, l⟩) := by
  obtain ⟨h0, ⟨ha, hb, hc, hd, he⟩, hm, hi, hr, hj, hs, hk, hf, hv, hl⟩ := h
  show List.all ([⟨1, IntKind.wrap .u64 6⟩] : List Field) okField = true ∧ hasF [⟨1, IntKind.wrap .u64 6⟩]
  rw [wu64 6 (by decide) (by decide)]
  refine ⟨?_, ?_⟩
  · simp only [List.all_cons, List.all_nil, Bool.and_eq_true]
    exact ⟨ok1 (by decide), trivial⟩
  · intro f hf
    simp only [List.mem_cons, List.not_mem_nil, or_false] at hf
    rcases hf with rfl <;> dsimp only <;> omega
theorem fo7 (h : Control.has ⟨7, ⟨a, b, c, d, e⟩, m, i, r, j, s, k, f, v, l⟩) (hz : chkK ⟨7, ⟨a, b, c, d, e⟩, m, i, r, j, s, k, f, v, l⟩ = 0) : (fldK ⟨7, ⟨a, b, c, d, e⟩, m, i, r, j, s, k, f, v, l⟩).all okField = true ∧ hasF (fldK ⟨7, ⟨a, b, c, d, e⟩, m, i, r, j, s, k, f, v, l⟩) := by
  obtain ⟨h0, ⟨ha, hb, hc, hd, he⟩, hm, hi, hr, hj, hs, hk, hf, hv, hl⟩ := h
  show List.all ([⟨1, IntKind.wrap .u64 7⟩, ⟨1, IntKind.wrap .u64 j⟩] : List Field) okField = true ∧ hasF [⟨1, IntKind.wrap .u64 7⟩, ⟨1, IntKind.wrap .u64 j⟩]
  have p1 := cIn_ok (n := j) hz
  rw [wu64 7 (by decide) (by decide), wu64 j (by omega) (by omega)]
  refine ⟨?_, ?_⟩
  · simp only [List.all_cons, List.all_nil, Bool.and_eq_true]
    exact ⟨ok1 (by decide), ok1 (by omega), trivial⟩
  · intro f hf
    simp only [List.mem_cons, List.not_mem_nil, or_false] at hf
    rcases hf with rfl | rfl <;> dsimp only <;> omega
theorem fo8 (h : Control.has ⟨8, ⟨a, b, c, d, e⟩, m, i, r, j, s, k, f, v, l⟩) (hz : chkK ⟨8, ⟨a, b, c, d, e⟩, m, i, r, j, s, k, f, v, l⟩ = 0) : (fldK ⟨8, ⟨a, b, c, d, e⟩, m, i, r, j, s, k, f, v, l⟩).all okField = true ∧ hasF (fldK ⟨8, ⟨a, b, c, d, e⟩, m, i, r, j, s, k, f, v, l⟩) := by
  obtain ⟨h0, ⟨ha, hb, hc, hd, he⟩, hm, hi, hr, hj, hs, hk, hf, hv, hl⟩ := h
  show List.all ([⟨1, IntKind.wrap .u64 8⟩, ⟨8, f⟩] : List Field) okField = true ∧ hasF [⟨1, IntKind.wrap .u64 8⟩, ⟨8, f⟩]
  have qf : 0 ≤ f ∧ f < 18446744073709551616 := hasU hf
  rw [wu64 8 (by decide) (by decide)]
  refine ⟨?_, ?_⟩
  · simp only [List.all_cons, List.all_nil, Bool.and_eq_true]
    exact ⟨ok1 (by decide), ok8 (by omega), trivial⟩
  · intro f hf
    simp only [List.mem_cons, List.not_mem_nil, or_false] at hf
    rcases hf with rfl | rfl <;> dsimp only <;> omega
theorem fo9 (h : Control.has ⟨9, ⟨a, b, c, d, e⟩, m, i, r, j, s, k, f, v, l⟩) (hz : chkK ⟨9, ⟨a, b, c, d, e⟩, m, i, r, j, s, k, f, v, l⟩ = 0) : (fldK ⟨9, ⟨a, b, c, d, e⟩, m, i, r, j, s, k, f, v, l⟩).all okField = true ∧ hasF (fldK ⟨9, ⟨a, b, c, d, e⟩, m, i, r, j, s, k, f, v, l⟩) := by
  obtain ⟨h0, ⟨ha, hb, hc, hd, he⟩, hm, hi, hr, hj, hs, hk, hf, hv, hl⟩ := h
  show List.all ([⟨1, IntKind.wrap .u64 9⟩, ⟨8, f⟩] : List Field) okField = true ∧ hasF [⟨1, IntKind.wrap .u64 9⟩, ⟨8, f⟩]
  have qf : 0 ≤ f ∧ f < 18446744073709551616 := hasU hf
  rw [wu64 9 (by decide) (by decide)]
  refine ⟨?_, ?_⟩
  · simp only [List.all_cons, List.all_nil, Bool.and_eq_true]
    exact ⟨ok1 (by decide), ok8 (by omega), trivial⟩
  · intro f hf
    simp only [List.mem_cons, List.not_mem_nil, or_false] at hf
    rcases hf with rfl | rfl <;> dsimp only <;> omega
theorem fo12 (h : Control.has ⟨12, ⟨a, b, c, d, e⟩, m, i, r, j, s, k, f, v, l⟩) (hz : chkK ⟨12, ⟨a, b, c, d, e⟩, m, i, r, j, s, k, f, v, l⟩ = 0) : (fldK ⟨12, ⟨a, b, c, d, e⟩, m, i, r, j, s, k, f, v, l⟩).all okField = true ∧ hasF (fldK ⟨12, ⟨a, b, c, d, e⟩, m, i, r, j, s, k, f, v, l⟩) := by
  obtain ⟨h0, ⟨ha, hb, hc, hd, he⟩, hm, hi, hr, hj, hs, hk, hf, hv, hl⟩ := h
  show List.all ([⟨1, IntKind.wrap .u64 12⟩, ⟨1, IntKind.wrap .u64 v⟩] : List Field) okField = true ∧ hasF [⟨1, IntKind.wrap .u64 12⟩, ⟨1, IntKind.wrap .u64 v⟩]
  have p1 := cIn_ok (n := v) hz
  rw [wu64 12 (by decide) (by decide), wu64 v (by omega) (by omega)]
  refine ⟨?_, ?_⟩
  · simp only [List.all_cons, List.all_nil, Bool.and_eq_true]
    exact ⟨ok1 (by decide), ok1 (by omega), trivial⟩
  · intro f hf
    simp only [List.mem_cons, List.not_mem_nil, or_false] at hf
    rcases hf with rfl | rfl <;> dsimp only <;> omega
theorem fo13 (h : Control.has ⟨13, ⟨a, b, c, d, e⟩, m, i, r, j, s, k, f, v, l⟩) (hz : chkK ⟨13, ⟨a, b, c, d, e⟩, m, i, r, j, s, k, f, v, l⟩ = 0) : (fldK ⟨13, ⟨a, b, c, d, e⟩, m, i, r, j, s, k, f, v, l⟩).all okField = true ∧ hasF (fldK ⟨13, ⟨a, b, c, d, e⟩, m, i, r, j, s, k, f, v, l⟩) := by
  obtain ⟨h0, ⟨ha, hb, hc, hd, he⟩, hm, hi, hr, hj, hs, hk, hf, hv, hl⟩ := h
  show List.all ([⟨1, IntKind.wrap .u64 13⟩, ⟨1, IntKind.wrap .u64 r⟩, ⟨1, IntKind.wrap .u64 j⟩] : List Field) okField = true ∧ hasF [⟨1, IntKind.wrap .u64 13⟩, ⟨1, IntKind.wrap .u64 r⟩, ⟨1, IntKind.wrap .u64 j⟩]
  have p0 := cIn_two (a := r) (b := j) hz
  have p1 := cIn_ok p0.1
  have p2 := cIn_ok p0.2
  rw [wu64 13 (by decide) (by decide), wu64 r (by omega) (by omega), wu64 j (by omega) (by omega)]
  refine ⟨?_, ?_⟩
  · simp only [List.all_cons, List.all_nil, Bool.and_eq_true]
    exact ⟨ok1 (by decide), ok1 (by omega), ok1 (by omega), trivial⟩
  · intro f hf
    simp only [List.mem_cons, List.not_mem_nil, or_false] at hf
    rcases hf with rfl | rfl | rfl <;> dsimp only <;> omega
theorem fo15 (h : Control.has ⟨15, ⟨a, b, c, d, e⟩, m, i, r, j, s, k, f, v, l⟩) (hz : chkK ⟨15, ⟨a, b, c, d, e⟩, m, i, r, j, s, k, f, v, l⟩ = 0) : (fldK ⟨15, ⟨a, b, c, d, e⟩, m, i, r, j, s, k, f, v, l⟩).all okField = true ∧ hasF (fldK ⟨15, ⟨a, b, c, d, e⟩, m, i, r, j, s, k, f, v, l⟩) := by
  obtain ⟨h0, ⟨ha, hb, hc, hd, he⟩, hm, hi, hr, hj, hs, hk, hf, hv, hl⟩ := h
  show List.all ([⟨1, IntKind.wrap .u64 15⟩, ⟨1, IntKind.wrap .u64 a⟩, ⟨2, IntKind.wrap .u64 b⟩, ⟨2, IntKind.wrap .u64 c⟩, ⟨2, IntKind.wrap .u64 d⟩, ⟨2, IntKind.wrap .u64 e⟩] : List Field) okField = true ∧ hasF [⟨1, IntKind.wrap .u64 15⟩, ⟨1, IntKind.wrap .u64 a⟩, ⟨2, IntKind.wrap .u64 b⟩, ⟨2, IntKind.wrap .u64 c⟩, ⟨2, IntKind.wrap .u64 d⟩, ⟨2, IntKind.wrap .u64 e⟩]
  obtain ⟨p1, p2, p3, p4, p5, p6, p7, p8, p9, p10⟩ := update_ok (u := ⟨a, b, c, d, e⟩) hz
  dsimp only at p1 p2 p3 p4 p5 p6 p7 p8 p9 p10
  rw [wu64 15 (by decide) (by decide), wu64 a (by omega) (by omega), wu64 b (by omega) (by omega), wu64 c (by omega) (by omega), wu64 d (by omega) (by omega), wu64 e (by omega) (by omega)]
  refine ⟨?_, ?_⟩
  · simp only [List.all_cons, List.all_nil, Bool.and_eq_true]
    exact ⟨ok1 (by decide), ok1 (by omega), ok2 (by omega), ok2 (by omega), ok2 (by omega), ok2 (by omega), trivial⟩
  · intro f hf
    simp only [List.mem_cons, List.not_mem_nil, or_false] at hf
    rcases hf with rfl | rfl | rfl | rfl | rfl | rfl <;> dsimp only <;> omega
theorem fo18 (h : Control.has ⟨18, ⟨a, b, c, d, e⟩, m, i, r, j, s, k, f, v, l⟩) (hz : chkK ⟨18, ⟨a, b, c, d, e⟩, m, i, r, j, s, k, f, v, l⟩ = 0) : (fldK ⟨18, ⟨a, b, c, d, e⟩, m, i, r, j, s, k, f, v, l⟩).all okField = true ∧ hasF (fldK ⟨18, ⟨a, b, c, d, e⟩, m, i, r, j, s, k, f, v, l⟩) := by
  obtain ⟨h0, ⟨ha, hb, hc, hd, he⟩, hm, hi, hr, hj, hs, hk, hf, hv, hl⟩ := h
  show List.all ([⟨1, IntKind.wrap .u64 18⟩] : List Field) okField = true ∧ hasF [⟨1, IntKind.wrap .u64 18⟩]
  rw [wu64 18 (by decide) (by decide)]
  refine ⟨?_, ?_⟩
  · simp only [List.all_cons, List.all_nil, Bool.and_eq_true]
    exact ⟨ok1 (by decide), trivial⟩
  · intro f hf
    simp only [List.mem_cons, List.not_mem_nil, or_false] at hf
    rcases hf with rfl <;> dsimp only <;> omega
theorem fo19 (h : Control.has ⟨19, ⟨a, b, c, d, e⟩, m, i, r, j, s, k, f, v, l⟩) (hz : chkK ⟨19, ⟨a, b, c, d, e⟩, m, i, r, j, s, k, f, v, l⟩ = 0) : (fldK ⟨19, ⟨a, b, c, d, e⟩, m, i, r, j, s, k, f, v, l⟩).all okField = true ∧ hasF (fldK ⟨19, ⟨a, b, c, d, e⟩, m, i, r, j, s, k, f, v, l⟩) := by
  obtain ⟨h0, ⟨ha, hb, hc, hd, he⟩, hm, hi, hr, hj, hs, hk, hf, hv, hl⟩ := h
  show List.all ([⟨1, IntKind.wrap .u64 19⟩] : List Field) okField = true ∧ hasF [⟨1, IntKind.wrap .u64 19⟩]
  rw [wu64 19 (by decide) (by decide)]
  refine ⟨?_, ?_⟩
  · simp only [List.all_cons, List.all_nil, Bool.and_eq_true]
    exact ⟨ok1 (by decide), trivial⟩
  · intro f hf
    simp only [List.mem_cons, List.not_mem_nil, or_false] at hf
    rcases hf with rfl <;> dsimp only <;> omega
theorem fo20 (h : Control.has ⟨20, ⟨a, b, c, d, e⟩, m, i, r, j, s, k, f, v, l⟩) (hz : chkK ⟨20, ⟨a, b, c, d, e⟩, m, i, r, j, s, k, f, v, l⟩ = 0) : (fldK ⟨20, ⟨a, b, c, d, e⟩, m, i, r, j, s, k, f, v, l⟩).all okField = true ∧ hasF (fldK ⟨20, ⟨a, b, c, d, e⟩, m, i, r, j, s, k, f, v, l⟩) := by
  obtain ⟨h0, ⟨ha, hb, hc, hd, he⟩, hm, hi, hr, hj, hs, hk, hf, hv, hl⟩ := h
  show List.all ([⟨1, IntKind.wrap .u64 20⟩, ⟨1, IntKind.wrap .u64 l⟩] : List Field) okField = true ∧ hasF [⟨1, IntKind.wrap .u64 20⟩, ⟨1, IntKind.wrap .u64 l⟩]
  have p1 := cIn_ok (n := l) hz
  rw [wu64 20 (by decide) (by decide), wu64 l (by omega) (by omega)]
  refine ⟨?_, ?_⟩
  · simp only [List.all_cons, List.all_nil, Bool.and_eq_true]
    exact ⟨ok1 (by decide), ok1 (by omega), trivial⟩
  · intro f hf
    simp only [List.mem_cons, List.not_mem_nil, or_false] at hf
    rcases hf with rfl | rfl <;> dsimp only <;> omega
theorem fo21 (h : Control.has ⟨21, ⟨a, b, c, d, e⟩, m, i, r, j, s, k, f, v, l⟩) (hz : chkK ⟨21, ⟨a, b, c, d, e⟩, m, i, r, j, s, k, f, v, l⟩ = 0) : (fldK ⟨21, ⟨a, b, c, d, e⟩, m, i, r, j, s, k, f, v, l⟩).all okField = true ∧ hasF (fldK ⟨21, ⟨a, b, c, d, e⟩, m, i, r, j, s, k, f, v, l⟩) := by
  obtain ⟨h0, ⟨ha, hb, hc, hd, he⟩, hm, hi, hr, hj, hs, hk, hf, hv, hl⟩ := h
  show List.all ([⟨1, IntKind.wrap .u64 21⟩, ⟨1, IntKind.wrap .u64 l⟩] : List Field) okField = true ∧ hasF [⟨1, IntKind.wrap .u64 21⟩, ⟨1, IntKind.wrap .u64 l⟩]
  have p1 := cIn_ok (n := l) hz
  rw [wu64 21 (by decide) (by decide), wu64 l (by omega) (by omega)]
  refine ⟨?_, ?_⟩
  · simp only [List.all_cons, List.all_nil, Bool.and_eq_true]
    exact ⟨ok1 (by decide), ok1 (by omega), trivial⟩
  · intro f hf
    simp only [List.mem_cons, List.not_mem_nil, or_false] at hf
    rcases hf with rfl | rfl <;> dsimp only <;> omega
end
theorem fldK_ok (c : Control) (hc : c.has) (hz : cCheck c = 0) : (fldK c).all okField = true ∧ hasF (fldK c) := by
  obtain ⟨h, _, hz⟩ := cCheck_ok hz
  obtain ⟨q, ⟨a, b, c, d, e⟩, m, i, r, j, s, k, f, v, l⟩ := c
  dsimp only at h
  rcases known_cases h with rfl | rfl | rfl | rfl | rfl | rfl | rfl | rfl | rfl | rfl | rfl | rfl | rfl | rfl | rfl | rfl | rfl
  · exact fo0 _ _ _ _ _ _ _ _ _ _ _ _ _ _ hc hz
  · exact fo1 _ _ _ _ _ _ _ _ _ _ _ _ _ _ hc hz
  · exact fo2 _ _ _ _ _ _ _ _ _ _ _ _ _ _ hc hz
  · exact fo3 _ _ _ _ _ _ _ _ _ _ _ _ _ _ hc hz
  · exact fo4 _ _ _ _ _ _ _ _ _ _ _ _ _ _ hc hz
  · exact fo5 _ _ _ _ _ _ _ _ _ _ _ _ _ _ hc hz
  · exact fo6 _ _ _ _ _ _ _ _ _ _ _ _ _ _ hc hz
  · exact fo7 _ _ _ _ _ _ _ _ _ _ _ _ _ _ hc hz
  · exact fo8 _ _ _ _ _ _ _ _ _ _ _ _ _ _ hc hz
  · exact fo9 _ _ _ _ _ _ _ _ _ _ _ _ _ _ hc hz
  · exact fo12 _ _ _ _ _ _ _ _ _ _ _ _ _ _ hc hz
  · exact fo13 _ _ _ _ _ _ _ _ _ _ _ _ _ _ hc hz
  · exact fo15 _ _ _ _ _ _ _ _ _ _ _ _ _ _ hc hz
  · exact fo18 _ _ _ _ _ _ _ _ _ _ _ _ _ _ hc hz
  · exact fo19 _ _ _ _ _ _ _ _ _ _ _ _ _ _ hc hz
  · exact fo20 _ _ _ _ _ _ _ _ _ _ _ _ _ _ hc hz
  · exact fo21 _ _ _ _ _ _ _ _ _ _ _ _ _ _ hc hz
theorem fldK_len (c : Control) (h : known c.Kind = true) : (valK c).length = (szK c.Kind).length ∧ (szK c.Kind).length ≤ 6 ∧ (szK c.Kind).sum ≤ 16 ∧ (szK c.Kind).all okSize = true ∧ 0 ≤ c.Kind ∧ c.Kind < 256 ∧ r26size c.Kind = 1 + (szK c.Kind).sum := by
  obtain ⟨q, ⟨a, b, c, d, e⟩, m, i, r, j, s, k, f, v, l⟩ := c
  dsimp only at h ⊢
  rcases known_cases h with rfl | rfl | rfl | rfl | rfl | rfl | rfl | rfl | rfl | rfl | rfl | rfl | rfl | rfl | rfl | rfl | rfl <;> exact ⟨rfl, by decide, by decide, by decide, by decide, by decide, by decide⟩
def flat (fs : List Field) : List Int := fs.flatMap fun f => num8 f.Size.toNat f.Value
theorem cEncode_ok (c : Control) (hc : c.has) (hz : cCheck c = 0) : cEncode c = (flat (fldK c), 0) := by
  obtain ⟨h1, h2⟩ := fldK_ok c hc hz
  obtain ⟨h, _, _⟩ := cCheck_ok hz
  obtain ⟨l1, l2, _⟩ := fldK_len c h
  have hl : (fldK c).length ≤ 1099511627776 := by
    show (⟨1, IntKind.wrap .u64 c.Kind⟩ :: zipF (szK c.Kind) (valK c) : List Field).length ≤ _
    rw [List.length_cons]; unfold zipF; rw [List.length_zipWith]; omega
  rw [cEncode_known c h, hz]
  show oPut (fldK c) = _
  rw [oPut_eq _ h2 hl, putL_spec _ _ h1]
  rfl
theorem cEncode_err (c : Control) (hz : cCheck c ≠ 0) : cEncode c = ([], cCheck c) := by
  unfold cEncode
  rw [show (cCheck c != (0 : Int)) = true by simp [hz]]
  rfl
theorem r23Put_go (p0 size : Int) (hs : size ≤ 8) : ∀ (n : Nat) (i q : Int) (out : List Int), 0 ≤ i → 0 ≤ q → q < 18446744073709551616 → (size - i).toNat < n → r23Put.go p0 size n i q out = out ++ num8 (size - i).toNat q
  | 0, i, q, out, h0, h1, h2, h3 => by omega
  | n + 1, i, q, out, h0, h1, h2, h3 => by
    unfold r23Put.go
    by_cases hi : i < size
    · rw [decide_eq_true hi, cond_true, wi64 (i + (1 : Int)) (by omega) (by omega), Int.tdiv_eq_ediv_of_nonneg h1, Int.tmod_eq_emod_of_nonneg h1, wu64 (q / 256) (by omega) (by omega), wu8m, Int.emod_eq_of_lt (by omega) (by omega)]
      rw [r23Put_go p0 size hs n (i + 1) (q / 256) _ (by omega) (by omega) (by omega) (by omega), show (size - i).toNat = (size - (i + 1)).toNat + 1 by omega, num8, List.append_assoc]
      rfl
    · rw [decide_eq_false hi, cond_false, show (size - i).toNat = 0 by omega, num8, List.append_nil]
theorem r23Put_eq {v : Int} (size : Int) (hs : size ≤ 8) (h0 : 0 ≤ v) (h1 : v < 18446744073709551616) : r23Put v size = num8 size.toNat v := by
  unfold r23Put
  rw [r23Put_go v size hs _ 0 v [] (by omega) h0 h1 (by omega)]
  simp
theorem pw (n v : Int) (hn : n ≤ 8) : r23Put (IntKind.wrap .u64 v) n = num8 n.toNat (IntKind.wrap .u64 v) := r23Put_eq n hn (by rw [wu64m]; omega) (by rw [wu64m]; omega)
theorem byte1 (r : Int) : [IntKind.wrap .u8 r] = num8 1 (IntKind.wrap .u64 r) := by
  show [_] = [_]
  rw [wu8m, wu64m]; congr 1; omega
theorem putUpd (u : Update) : r26PutUpdate u = num8 1 (IntKind.wrap .u64 u.WinSize) ++ num8 2 (IntKind.wrap .u64 u.WinOffset) ++ num8 2 (IntKind.wrap .u64 u.Interval) ++ num8 2 (IntKind.wrap .u64 u.Latency) ++ num8 2 (IntKind.wrap .u64 u.Timeout) := by
  unfold r26PutUpdate
  rw [pw 1 _ (by decide), pw 2 _ (by decide), pw 2 _ (by decide), pw 2 _ (by decide), pw 2 _ (by decide)]
  rfl
section
variable (a b c d e m i r j s k f v l : Int)
theorem re0 : r26Encode ⟨0, ⟨a, b, c, d, e⟩, m, i, r, j, s, k, f, v, l⟩ = cond (r26Check ⟨0, ⟨a, b, c, d, e⟩, m, i, r, j, s, k, f, v, l⟩ != 0) ([], r26Check ⟨0, ⟨a, b, c, d, e⟩, m, i, r, j, s, k, f, v, l⟩) ([IntKind.wrap .u8 0] ++ r26PutUpdate ⟨a, b, c, d, e⟩ ++ r23Put (IntKind.wrap .u64 i) 2, 0) := by kernel_rfl
theorem rf0 (h : Control.has ⟨0, ⟨a, b, c, d, e⟩, m, i, r, j, s, k, f, v, l⟩) : flat (fldK ⟨0, ⟨a, b, c, d, e⟩, m, i, r, j, s, k, f, v, l⟩) = [IntKind.wrap .u8 0] ++ r26PutUpdate ⟨a, b, c, d, e⟩ ++ r23Put (IntKind.wrap .u64 i) 2 := by
  obtain ⟨h0, ⟨ha, hb, hc, hd, he⟩, hm, hi, hr, hj, hs, hk, hf, hv, hl⟩ := h
  show num8 1 (IntKind.wrap .u64 0) ++ (num8 1 (IntKind.wrap .u64 a) ++ (num8 2 (IntKind.wrap .u64 b) ++ (num8 2 (IntKind.wrap .u64 c) ++ (num8 2 (IntKind.wrap .u64 d) ++ (num8 2 (IntKind.wrap .u64 e) ++ (num8 2 (IntKind.wrap .u64 i) ++ ([]))))))) = _
  rw [putUpd, pw 2 _ (by decide), byte1 0]
  simp only [List.append_assoc, List.append_nil]
  try rfl
theorem re1 : r26Encode ⟨1, ⟨a, b, c, d, e⟩, m, i, r, j, s, k, f, v, l⟩ = cond (r26Check ⟨1, ⟨a, b, c, d, e⟩, m, i, r, j, s, k, f, v, l⟩ != 0) ([], r26Check ⟨1, ⟨a, b, c, d, e⟩, m, i, r, j, s, k, f, v, l⟩) ([IntKind.wrap .u8 1] ++ r23Put m 5 ++ r23Put (IntKind.wrap .u64 i) 2, 0) := by kernel_rfl
theorem rf1 (h : Control.has ⟨1, ⟨a, b, c, d, e⟩, m, i, r, j, s, k, f, v, l⟩) : flat (fldK ⟨1, ⟨a, b, c, d, e⟩, m, i, r, j, s, k, f, v, l⟩) = [IntKind.wrap .u8 1] ++ r23Put m 5 ++ r23Put (IntKind.wrap .u64 i) 2 := by
  obtain ⟨h0, ⟨ha, hb, hc, hd, he⟩, hm, hi, hr, hj, hs, hk, hf, hv, hl⟩ := h
  show num8 1 (IntKind.wrap .u64 1) ++ (num8 5 (m) ++ (num8 2 (IntKind.wrap .u64 i) ++ ([]))) = _
  rw [r23Put_eq 5 (by decide) (hasU hm).1 (hasU hm).2, pw 2 _ (by decide), byte1 1]
  simp only [List.append_assoc, List.append_nil]
  try rfl
theorem re2 : r26Encode ⟨2, ⟨a, b, c, d, e⟩, m, i, r, j, s, k, f, v, l⟩ = cond (r26Check ⟨2, ⟨a, b, c, d, e⟩, m, i, r, j, s, k, f, v, l⟩ != 0) ([], r26Check ⟨2, ⟨a, b, c, d, e⟩, m, i, r, j, s, k, f, v, l⟩) ([IntKind.wrap .u8 2] ++ [IntKind.wrap .u8 r], 0) := by kernel_rfl
theorem rf2 (h : Control.has ⟨2, ⟨a, b, c, d, e⟩, m, i, r, j, s, k, f, v, l⟩) : flat (fldK ⟨2, ⟨a, b, c, d, e⟩, m, i, r, j, s, k, f, v, l⟩) = [IntKind.wrap .u8 2] ++ [IntKind.wrap .u8 r] := by
  obtain ⟨h0, ⟨ha, hb, hc, hd, he⟩, hm, hi, hr, hj, hs, hk, hf, hv, hl⟩ := h
  show num8 1 (IntKind.wrap .u64 2) ++ (num8 1 (IntKind.wrap .u64 r) ++ ([])) = _
  rw [byte1 r, byte1 2]
  simp only [List.append_assoc, List.append_nil]
  try rfl
theorem re3 : r26Encode ⟨3, ⟨a, b, c, d, e⟩, m, i, r, j, s, k, f, v, l⟩ = cond (r26Check ⟨3, ⟨a, b, c, d, e⟩, m, i, r, j, s, k, f, v, l⟩ != 0) ([], r26Check ⟨3, ⟨a, b, c, d, e⟩, m, i, r, j, s, k, f, v, l⟩) ([IntKind.wrap .u8 3] ++ r23Put s 8 ++ r23Put k 8, 0) := by kernel_rfl
theorem rf3 (h : Control.has ⟨3, ⟨a, b, c, d, e⟩, m, i, r, j, s, k, f, v, l⟩) : flat (fldK ⟨3, ⟨a, b, c, d, e⟩, m, i, r, j, s, k, f, v, l⟩) = [IntKind.wrap .u8 3] ++ r23Put s 8 ++ r23Put k 8 := by
  obtain ⟨h0, ⟨ha, hb, hc, hd, he⟩, hm, hi, hr, hj, hs, hk, hf, hv, hl⟩ := h
  show num8 1 (IntKind.wrap .u64 3) ++ (num8 8 (s) ++ (num8 8 (k) ++ ([]))) = _
  rw [r23Put_eq 8 (by decide) (hasU hs).1 (hasU hs).2, r23Put_eq 8 (by decide) (hasU hk).1 (hasU hk).2, byte1 3]
  simp only [List.append_assoc, List.append_nil]
  try rfl
theorem re4 : r26Encode ⟨4, ⟨a, b, c, d, e⟩, m, i, r, j, s, k, f, v, l⟩ = cond (r26Check ⟨4, ⟨a, b, c, d, e⟩, m, i, r, j, s, k, f, v, l⟩ != 0) ([], r26Check ⟨4, ⟨a, b, c, d, e⟩, m, i, r, j, s, k, f, v, l⟩) ([IntKind.wrap .u8 4] ++ r23Put s 8, 0) := by kernel_rfl
theorem rf4 (h : Control.has ⟨4, ⟨a, b, c, d, e⟩, m, i, r, j, s, k, f, v, l⟩) : flat (fldK ⟨4, ⟨a, b, c, d, e⟩, m, i, r, j, s, k, f, v, l⟩) = [IntKind.wrap .u8 4] ++ r23Put s 8 := by
  obtain ⟨h0, ⟨ha, hb, hc, hd, he⟩, hm, hi, hr, hj, hs, hk, hf, hv, hl⟩ := h
  show num8 1 (IntKind.wrap .u64 4) ++ (num8 8 (s) ++ ([])) = _
  rw [r23Put_eq 8 (by decide) (hasU hs).1 (hasU hs).2, byte1 4]
  simp only [List.append_assoc, List.append_nil]
  try rfl
theorem re5 : r26Encode ⟨5, ⟨a, b, c, d, e⟩, m, i, r, j, s, k, f, v, l⟩ = cond (r26Check ⟨5, ⟨a, b, c, d, e⟩, m, i, r, j, s, k, f, v, l⟩ != 0) ([], r26Check ⟨5, ⟨a, b, c, d, e⟩, m, i, r, j, s, k, f, v, l⟩) ([IntKind.wrap .u8 5], 0) := by kernel_rfl
theorem rf5 (h : Control.has ⟨5, ⟨a, b, c, d, e⟩, m, i, r, j, s, k, f, v, l⟩) : flat (fldK ⟨5, ⟨a, b, c, d, e⟩, m, i, r, j, s, k, f, v, l⟩) = [IntKind.wrap .u8 5] := by
  obtain ⟨h0, ⟨ha, hb, hc, hd, he⟩, hm, hi, hr, hj, hs, hk, hf, hv, hl⟩ := h
  show num8 1 (IntKind.wrap .u64 5) ++ ([]) = _
  rw [byte1 5]
  simp only [List.append_assoc, List.append_nil]
  try rfl
theorem re6 : r26Encode ⟨6, ⟨a, b, c, d, e⟩, m, i, r, j, s, k, f, v, l⟩ = cond (r26Check ⟨6, ⟨a, b, c, d, e⟩, m, i, r, j, s, k, f, v, l⟩ != 0) ([], r26Check ⟨6, ⟨a, b, c, d, e⟩, m, i, r, j, s, k, f, v, l⟩) ([IntKind.wrap .u8 6], 0) := by kernel_rfl
theorem rf6 (h : Control.has ⟨6, ⟨a, b, c, d, e⟩, m, i, r, j, s, k, f, v, l⟩) : flat (fldK ⟨6, ⟨a, b, c, d, e⟩, m, i, r, j, s, k, f, v, l⟩) = [IntKind.wrap .u8 6] := by
  obtain ⟨h0, ⟨ha, hb, hc, hd, he⟩, hm, hi, hr, hj, hs, hk, hf, hv, hl⟩ := h
  show num8 1 (IntKind.wrap .u64 6) ++ ([]) = _
  rw [byte1 6]
  simp only [List.append_assoc, List.append_nil]
  try rfl
theorem re7 : r26Encode ⟨7, ⟨a, b, c, d, e⟩, m, i, r, j, s, k, f, v, l⟩ = cond (r26Check ⟨7, ⟨a, b, c, d, e⟩, m, i, r, j, s, k, f, v, l⟩ != 0) ([], r26Check ⟨7, ⟨a, b, c, d, e⟩, m, i, r, j, s, k, f, v, l⟩) ([IntKind.wrap .u8 7] ++ [IntKind.wrap .u8 j], 0) := by kernel_rfl
theorem rf7 (h : Control.has ⟨7, ⟨a, b, c, d, e⟩, m, i, r, j, s, k, f, v, l⟩) : flat (fldK ⟨7, ⟨a, b, c, d, e⟩, m, i, r, j, s, k, f, v, l⟩) = [IntKind.wrap .u8 7] ++ [IntKind.wrap .u8 j] := by
  obtain ⟨h0, ⟨ha, hb, hc, hd, he⟩, hm, hi, hr, hj, hs, hk, hf, hv, hl⟩ := h
  show num8 1 (IntKind.wrap .u64 7) ++ (num8 1 (IntKind.wrap .u64 j) ++ ([])) = _
  rw [byte1 j, byte1 7]
  simp only [List.append_assoc, List.append_nil]
  try rfl
theorem re8 : r26Encode ⟨8, ⟨a, b, c, d, e⟩, m, i, r, j, s, k, f, v, l⟩ = cond (r26Check ⟨8, ⟨a, b, c, d, e⟩, m, i, r, j, s, k, f, v, l⟩ != 0) ([], r26Check ⟨8, ⟨a, b, c, d, e⟩, m, i, r, j, s, k, f, v, l⟩) ([IntKind.wrap .u8 8] ++ r23Put f 8, 0) := by kernel_rfl
theorem rf8 (h : Control.has ⟨8, ⟨a, b, c, d, e⟩, m, i, r, j, s, k, f, v, l⟩) : flat (fldK ⟨8, ⟨a, b, c, d, e⟩, m, i, r, j, s, k, f, v, l⟩) = [IntKind.wrap .u8 8] ++ r23Put f 8 := by
  obtain ⟨h0, ⟨ha, hb, hc, hd, he⟩, hm, hi, hr, hj, hs, hk, hf, hv, hl⟩ := h
  show num8 1 (IntKind.wrap .u64 8) ++ (num8 8 (f) ++ ([])) = _
  rw [r23Put_eq 8 (by decide) (hasU hf).1 (hasU hf).2, byte1 8]
  simp only [List.append_assoc, List.append_nil]
  try rfl
theorem re9 : r26Encode ⟨9, ⟨a, b, c, d, e⟩, m, i, r, j, s, k, f, v, l⟩ = cond (r26Check ⟨9, ⟨a, b, c, d, e⟩, m, i, r, j, s, k, f, v, l⟩ != 0) ([], r26Check ⟨9, ⟨a, b, c, d, e⟩, m, i, r, j, s, k, f, v, l⟩) ([IntKind.wrap .u8 9] ++ r23Put f 8, 0) := by kernel_rfl
theorem rf9 (h : Control.has ⟨9, ⟨a, b, c, d, e⟩, m, i, r, j, s, k, f, v, l⟩) : flat (fldK ⟨9, ⟨a, b, c, d, e⟩, m, i, r, j, s, k, f, v, l⟩) = [IntKind.wrap .u8 9] ++ r23Put f 8 := by
  obtain ⟨h0, ⟨ha, hb, hc, hd, he⟩, hm, hi, hr, hj, hs, hk, hf, hv, hl⟩ := h
  show num8 1 (IntKind.wrap .u64 9) ++ (num8 8 (f) ++ ([])) = _
  rw [r23Put_eq 8 (by decide) (hasU hf).1 (hasU hf).2, byte1 9]
  simp only [List.append_assoc, List.append_nil]
  try rfl
theorem re12 : r26Encode ⟨12, ⟨a, b, c, d, e⟩, m, i, r, j, s, k, f, v, l⟩ = cond (r26Check ⟨12, ⟨a, b, c, d, e⟩, m, i, r, j, s, k, f, v, l⟩ != 0) ([], r26Check ⟨12, ⟨a, b, c, d, e⟩, m, i, r, j, s, k, f, v, l⟩) ([IntKind.wrap .u8 12] ++ [IntKind.wrap .u8 v], 0) := by kernel_rfl
theorem rf12 (h : Control.has ⟨12, ⟨a, b, c, d, e⟩, m, i, r, j, s, k, f, v, l⟩) : flat (fldK ⟨12, ⟨a, b, c, d, e⟩, m, i, r, j, s, k, f, v, l⟩) = [IntKind.wrap .u8 12] ++ [IntKind.wrap .u8 v] := by
  obtain ⟨h0, ⟨ha, hb, hc, hd, he⟩, hm, hi, hr, hj, hs, hk, hf, hv, hl⟩ := h
  show num8 1 (IntKind.wrap .u64 12) ++ (num8 1 (IntKind.wrap .u64 v) ++ ([])) = _
  rw [byte1 v, byte1 12]
  simp only [List.append_assoc, List.append_nil]
  try rfl
theorem re13 : r26Encode ⟨13, ⟨a, b, c, d, e⟩, m, i, r, j, s, k, f, v, l⟩ = cond (r26Check ⟨13, ⟨a, b, c, d, e⟩, m, i, r, j, s, k, f, v, l⟩ != 0) ([], r26Check ⟨13, ⟨a, b, c, d, e⟩, m, i, r, j, s, k, f, v, l⟩) ([IntKind.wrap .u8 13] ++ [IntKind.wrap .u8 r] ++ [IntKind.wrap .u8 j], 0) := by kernel_rfl
theorem rf13 (h : Control.has ⟨13, ⟨a, b, c, d, e⟩, m, i, r, j, s, k, f, v, l⟩) : flat (fldK ⟨13, ⟨a, b, c, d, e⟩, m, i, r, j, s, k, f, v, l⟩) = [IntKind.wrap .u8 13] ++ [IntKind.wrap .u8 r] ++ [IntKind.wrap .u8 j] := by
  obtain ⟨h0, ⟨ha, hb, hc, hd, he⟩, hm, hi, hr, hj, hs, hk, hf, hv, hl⟩ := h
  show num8 1 (IntKind.wrap .u64 13) ++ (num8 1 (IntKind.wrap .u64 r) ++ (num8 1 (IntKind.wrap .u64 j) ++ ([]))) = _
  rw [byte1 r, byte1 j, byte1 13]
  simp only [List.append_assoc, List.append_nil]
  try rfl
theorem re15 : r26Encode ⟨15, ⟨a, b, c, d, e⟩, m, i, r, j, s, k, f, v, l⟩ = cond (r26Check ⟨15, ⟨a, b, c, d, e⟩, m, i, r, j, s, k, f, v, l⟩ != 0) ([], r26Check ⟨15, ⟨a, b, c, d, e⟩, m, i, r, j, s, k, f, v, l⟩) ([IntKind.wrap .u8 15] ++ r26PutUpdate ⟨a, b, c, d, e⟩, 0) := by kernel_rfl
theorem rf15 (h : Control.has ⟨15, ⟨a, b, c, d, e⟩, m, i, r, j, s, k, f, v, l⟩) : flat (fldK ⟨15, ⟨a, b, c, d, e⟩, m, i, r, j, s, k, f, v, l⟩) = [IntKind.wrap .u8 15] ++ r26PutUpdate ⟨a, b, c, d, e⟩ := by
  obtain ⟨h0, ⟨ha, hb, hc, hd, he⟩, hm, hi, hr, hj, hs, hk, hf, hv, hl⟩ := h
  show num8 1 (IntKind.wrap .u64 15) ++ (num8 1 (IntKind.wrap .u64 a) ++ (num8 2 (IntKind.wrap .u64 b) ++ (num8 2 (IntKind.wrap .u64 c) ++ (num8 2 (IntKind.wrap .u64 d) ++ (num8 2 (IntKind.wrap .u64 e) ++ ([])))))) = _
  rw [putUpd, byte1 15]
  simp only [List.append_assoc, List.append_nil]
  try rfl
theorem re18 : r26Encode ⟨18, ⟨a, b, c, d, e⟩, m, i, r, j, s, k, f, v, l⟩ = cond (r26Check ⟨18, ⟨a, b, c, d, e⟩, m, i, r, j, s, k, f, v, l⟩ != 0) ([], r26Check ⟨18, ⟨a, b, c, d, e⟩, m, i, r, j, s, k, f, v, l⟩) ([IntKind.wrap .u8 18], 0) := by kernel_rfl
theorem rf18 (h : Control.has ⟨18, ⟨a, b, c, d, e⟩, m, i, r, j, s, k, f, v, l⟩) : flat (fldK ⟨18, ⟨a, b, c, d, e⟩, m, i, r, j, s, k, f, v, l⟩) = [IntKind.wrap .u8 18] := by
  obtain ⟨h0, ⟨ha, hb, hc, hd, he⟩, hm, hi, hr, hj, hs, hk, hf, hv, hl⟩ := h
  show num8 1 (IntKind.wrap .u64 18) ++ ([]) = _
  rw [byte1 18]
  simp only [List.append_assoc, List.append_nil]
  try rfl
theorem re19 : r26Encode ⟨19, ⟨a, b, c, d, e⟩, m, i, r, j, s, k, f, v, l⟩ = cond (r26Check ⟨19, ⟨a, b, c, d, e⟩, m, i, r, j, s, k, f, v, l⟩ != 0) ([], r26Check ⟨19, ⟨a, b, c, d, e⟩, m, i, r, j, s, k, f, v, l⟩) ([IntKind.wrap .u8 19], 0) := by kernel_rfl
theorem rf19 (h : Control.has ⟨19, ⟨a, b, c, d, e⟩, m, i, r, j, s, k, f, v, l⟩) : flat (fldK ⟨19, ⟨a, b, c, d, e⟩, m, i, r, j, s, k, f, v, l⟩) = [IntKind.wrap .u8 19] := by
  obtain ⟨h0, ⟨ha, hb, hc, hd, he⟩, hm, hi, hr, hj, hs, hk, hf, hv, hl⟩ := h
  show num8 1 (IntKind.wrap .u64 19) ++ ([]) = _
  rw [byte1 19]
  simp only [List.append_assoc, List.append_nil]
  try rfl
theorem re20 : r26Encode ⟨20, ⟨a, b, c, d, e⟩, m, i, r, j, s, k, f, v, l⟩ = cond (r26Check ⟨20, ⟨a, b, c, d, e⟩, m, i, r, j, s, k, f, v, l⟩ != 0) ([], r26Check ⟨20, ⟨a, b, c, d, e⟩, m, i, r, j, s, k, f, v, l⟩) ([IntKind.wrap .u8 20] ++ [IntKind.wrap .u8 l], 0) := by kernel_rfl
theorem rf20 (h : Control.has ⟨20, ⟨a, b, c, d, e⟩, m, i, r, j, s, k, f, v, l⟩) : flat (fldK ⟨20, ⟨a, b, c, d, e⟩, m, i, r, j, s, k, f, v, l⟩) = [IntKind.wrap .u8 20] ++ [IntKind.wrap .u8 l] := by
  obtain ⟨h0, ⟨ha, hb, hc, hd, he⟩, hm, hi, hr, hj, hs, hk, hf, hv, hl⟩ := h
  show num8 1 (IntKind.wrap .u64 20) ++ (num8 1 (IntKind.wrap .u64 l) ++ ([])) = _
  rw [byte1 l, byte1 20]
  simp only [List.append_assoc, List.append_nil]
  try rfl
theorem re21 : r26Encode ⟨21, ⟨a, b, c, d, e⟩, m, i, r, j, s, k, f, v, l⟩ = cond (r26Check ⟨21, ⟨a, b, c, d, e⟩, m, i, r, j, s, k, f, v, l⟩ != 0) ([], r26Check ⟨21, ⟨a, b, c, d, e⟩, m, i, r, j, s, k, f, v, l⟩) ([IntKind.wrap .u8 21] ++ [IntKind.wrap .u8 l], 0) := by kernel_rfl
theorem rf21 (h : Control.has ⟨21, ⟨a, b, c, d, e⟩, m, i, r, j, s, k, f, v, l⟩) : flat (fldK ⟨21, ⟨a, b, c, d, e⟩, m, i, r, j, s, k, f, v, l⟩) = [IntKind.wrap .u8 21] ++ [IntKind.wrap .u8 l] := by
  obtain ⟨h0, ⟨ha, hb, hc, hd, he⟩, hm, hi, hr, hj, hs, hk, hf, hv, hl⟩ := h
  show num8 1 (IntKind.wrap .u64 21) ++ (num8 1 (IntKind.wrap .u64 l) ++ ([])) = _
  rw [byte1 l, byte1 21]
  simp only [List.append_assoc, List.append_nil]
  try rfl
end
theorem r26Encode_ok (c : Control) (hc : c.has) (h : known c.Kind = true) (hz : r26Check c = 0) : r26Encode c = (flat (fldK c), 0) := by
  obtain ⟨q, ⟨a, b, c, d, e⟩, m, i, r, j, s, k, f, v, l⟩ := c
  dsimp only at h
  rcases known_cases h with rfl | rfl | rfl | rfl | rfl | rfl | rfl | rfl | rfl | rfl | rfl | rfl | rfl | rfl | rfl | rfl | rfl
  · rw [re0, hz, rf0 _ _ _ _ _ _ _ _ _ _ _ _ _ _ hc]; rfl
  · rw [re1, hz, rf1 _ _ _ _ _ _ _ _ _ _ _ _ _ _ hc]; rfl
  · rw [re2, hz, rf2 _ _ _ _ _ _ _ _ _ _ _ _ _ _ hc]; rfl
  · rw [re3, hz, rf3 _ _ _ _ _ _ _ _ _ _ _ _ _ _ hc]; rfl
  · rw [re4, hz, rf4 _ _ _ _ _ _ _ _ _ _ _ _ _ _ hc]; rfl
  · rw [re5, hz, rf5 _ _ _ _ _ _ _ _ _ _ _ _ _ _ hc]; rfl
  · rw [re6, hz, rf6 _ _ _ _ _ _ _ _ _ _ _ _ _ _ hc]; rfl
  · rw [re7, hz, rf7 _ _ _ _ _ _ _ _ _ _ _ _ _ _ hc]; rfl
  · rw [re8, hz, rf8 _ _ _ _ _ _ _ _ _ _ _ _ _ _ hc]; rfl
  · rw [re9, hz, rf9 _ _ _ _ _ _ _ _ _ _ _ _ _ _ hc]; rfl
  · rw [re12, hz, rf12 _ _ _ _ _ _ _ _ _ _ _ _ _ _ hc]; rfl
  · rw [re13, hz, rf13 _ _ _ _ _ _ _ _ _ _ _ _ _ _ hc]; rfl
  · rw [re15, hz, rf15 _ _ _ _ _ _ _ _ _ _ _ _ _ _ hc]; rfl
  · rw [re18, hz, rf18 _ _ _ _ _ _ _ _ _ _ _ _ _ _ hc]; rfl
  · rw [re19, hz, rf19 _ _ _ _ _ _ _ _ _ _ _ _ _ _ hc]; rfl
  · rw [re20, hz, rf20 _ _ _ _ _ _ _ _ _ _ _ _ _ _ hc]; rfl
  · rw [re21, hz, rf21 _ _ _ _ _ _ _ _ _ _ _ _ _ _ hc]; rfl
theorem r26Encode_err (c : Control) (hz : r26Check c ≠ 0) : r26Encode c = ([], r26Check c) := by
  unfold r26Encode
  rw [show (r26Check c != (0 : Int)) = true by simp [hz]]
  rfl
theorem encode_eq (c : Control) (hc : c.has) : cEncode c = r26Encode c := by
  by_cases hz : cCheck c = 0
  · rw [cEncode_ok c hc hz, r26Encode_ok c hc (cCheck_ok hz).1 (by rw [← check_eq c hc]; exact hz)]
  · rw [cEncode_err c hz, r26Encode_err c (by rw [← check_eq c hc]; exact hz), check_eq c hc]
theorem ctrlpduEncodes_true (c : Control) (b0 : c.has) : ctrlpduEncodes c = true := by
  unfold ctrlpduEncodes
  rw [ex26_true, encode_eq c b0, r23Same_refl]
  simp
theorem zero_has (k : IntKind) : IntKind.has k 0 := by cases k <;> simp [IntKind.has, IntKind.min, IntKind.max, IntKind.bits, IntKind.signed]
theorem has_64 (n : Int) : IntKind.has .i64 (IntKind.wrap .i64 n) := by
  have := wi64s n
  simp [IntKind.has, IntKind.min, IntKind.max, IntKind.bits, IntKind.signed]; omega
theorem has_16 (n : Int) : IntKind.has .u16 (IntKind.wrap .u16 n) := by
  have := wu16s n
  simp [IntKind.has, IntKind.min, IntKind.max, IntKind.bits, IntKind.signed]; omega
theorem has_U (n : Int) (h0 : 0 ≤ n) (h1 : n < 18446744073709551616) : IntKind.has .u64 n := by
  simp [IntKind.has, IntKind.min, IntKind.max, IntKind.bits, IntKind.signed]; omega
theorem lit_has (n : Int) (h0 : 0 ≤ n) (h1 : n < 256) : IntKind.has .i64 n := by
  simp [IntKind.has, IntKind.min, IntKind.max, IntKind.bits, IntKind.signed]; omega
def decG (K : Int) (b : List Int) : Control × Int :=
  cond ((b.length : Int) == 0) (Control.zero, 3) (cond ((oTake (List.drop (Int.toNat (1 : Int)) (List.take (Int.toNat (b.length : Int)) b)) (szK K)).2.2 != 0) (Control.zero, (oTake (List.drop (Int.toNat (1 : Int)) (List.take (Int.toNat (b.length : Int)) b)) (szK K)).2.2)
    (cond (decide ((0 : Int) < ((oTake (List.drop (Int.toNat (1 : Int)) (List.take (Int.toNat (b.length : Int)) b)) (szK K)).2.1.length : Int))) (Control.zero, 2)
      (cond (cCheck (setK K (oTake (List.drop (Int.toNat (1 : Int)) (List.take (Int.toNat (b.length : Int)) b)) (szK K)).1) != 0) (Control.zero, cCheck (setK K (oTake (List.drop (Int.toNat (1 : Int)) (List.take (Int.toNat (b.length : Int)) b)) (szK K)).1))
        (setK K (oTake (List.drop (Int.toNat (1 : Int)) (List.take (Int.toNat (b.length : Int)) b)) (szK K)).1, 0))))
theorem dg0 (b : List Int) (h : IntKind.wrap IntKind.i64 (List.getD b (Int.toNat (0 : Int)) (0 : Int)) = 0) : cDecode b = decG 0 b := by
  unfold cDecode
  rw [h]
  kernel_rfl
theorem dg1 (b : List Int) (h : IntKind.wrap IntKind.i64 (List.getD b (Int.toNat (0 : Int)) (0 : Int)) = 1) : cDecode b = decG 1 b := by
  unfold cDecode
  rw [h]
  kernel_rfl
theorem dg2 (b : List Int) (h : IntKind.wrap IntKind.i64 (List.getD b (Int.toNat (0 : Int)) (0 : Int)) = 2) : cDecode b = decG 2 b := by
  unfold cDecode
  rw [h]
  kernel_rfl
theorem dg3 (b : List Int) (h : IntKind.wrap IntKind.i64 (List.getD b (Int.toNat (0 : Int)) (0 : Int)) = 3) : cDecode b = decG 3 b := by
  unfold cDecode
  rw [h]
  kernel_rfl
theorem dg4 (b : List Int) (h : IntKind.wrap IntKind.i64 (List.getD b (Int.toNat (0 : Int)) (0 : Int)) = 4) : cDecode b = decG 4 b := by
  unfold cDecode
  rw [h]
  kernel_rfl
theorem dg5 (b : List Int) (h : IntKind.wrap IntKind.i64 (List.getD b (Int.toNat (0 : Int)) (0 : Int)) = 5) : cDecode b = decG 5 b := by
  unfold cDecode
  rw [h]
  kernel_rfl
theorem dg6 (b : List Int) (h : IntKind.wrap IntKind.i64 (List.getD b (Int.toNat (0 : Int)) (0 : Int)) = 6) : cDecode b = decG 6 b := by
  unfold cDecode
  rw [h]
  kernel_rfl
theorem dg7 (b : List Int) (h : IntKind.wrap IntKind.i64 (List.getD b (Int.toNat (0 : Int)) (0 : Int)) = 7) : cDecode b = decG 7 b := by
  unfold cDecode
  rw [h]
  kernel_rfl
theorem dg8 (b : List Int) (h : IntKind.wrap IntKind.i64 (List.getD b (Int.toNat (0 : Int)) (0 : Int)) = 8) : cDecode b = decG 8 b := by
  unfold cDecode
  rw [h]
  kernel_rfl
theorem dg9 (b : List Int) (h : IntKind.wrap IntKind.i64 (List.getD b (Int.toNat (0 : Int)) (0 : Int)) = 9) : cDecode b = decG 9 b := by
  unfold cDecode
  rw [h]
  kernel_rfl
theorem dg12 (b : List Int) (h : IntKind.wrap IntKind.i64 (List.getD b (Int.toNat (0 : Int)) (0 : Int)) = 12) : cDecode b = decG 12 b := by
  unfold cDecode
  rw [h]
  kernel_rfl
theorem dg13 (b : List Int) (h : IntKind.wrap IntKind.i64 (List.getD b (Int.toNat (0 : Int)) (0 : Int)) = 13) : cDecode b = decG 13 b := by
  unfold cDecode
  rw [h]
  kernel_rfl
theorem dg15 (b : List Int) (h : IntKind.wrap IntKind.i64 (List.getD b (Int.toNat (0 : Int)) (0 : Int)) = 15) : cDecode b = decG 15 b := by
  unfold cDecode
  rw [h]
  kernel_rfl
theorem dg18 (b : List Int) (h : IntKind.wrap IntKind.i64 (List.getD b (Int.toNat (0 : Int)) (0 : Int)) = 18) : cDecode b = decG 18 b := by
  unfold cDecode
  rw [h]
  kernel_rfl
theorem dg19 (b : List Int) (h : IntKind.wrap IntKind.i64 (List.getD b (Int.toNat (0 : Int)) (0 : Int)) = 19) : cDecode b = decG 19 b := by
  unfold cDecode
  rw [h]
  kernel_rfl
theorem dg20 (b : List Int) (h : IntKind.wrap IntKind.i64 (List.getD b (Int.toNat (0 : Int)) (0 : Int)) = 20) : cDecode b = decG 20 b := by
  unfold cDecode
  rw [h]
  kernel_rfl
theorem dg21 (b : List Int) (h : IntKind.wrap IntKind.i64 (List.getD b (Int.toNat (0 : Int)) (0 : Int)) = 21) : cDecode b = decG 21 b := by
  unfold cDecode
  rw [h]
  kernel_rfl
theorem cDecode_known (b : List Int) (K : Int) (h : IntKind.wrap IntKind.i64 (List.getD b (Int.toNat (0 : Int)) (0 : Int)) = K) (hk : known K = true) : cDecode b = decG K b := by
  rcases known_cases hk with rfl | rfl | rfl | rfl | rfl | rfl | rfl | rfl | rfl | rfl | rfl | rfl | rfl | rfl | rfl | rfl | rfl
  · exact dg0 b h
  · exact dg1 b h
  · exact dg2 b h
  · exact dg3 b h
  · exact dg4 b h
  · exact dg5 b h
  · exact dg6 b h
  · exact dg7 b h
  · exact dg8 b h
  · exact dg9 b h
  · exact dg12 b h
  · exact dg13 b h
  · exact dg15 b h
  · exact dg18 b h
  · exact dg19 b h
  · exact dg20 b h
  · exact dg21 b h
theorem cDecode_unknown (b : List Int) (h : known (IntKind.wrap IntKind.i64 (List.getD b (Int.toNat (0 : Int)) (0 : Int))) = false) : cDecode b = cond ((b.length : Int) == 0) (Control.zero, 3) (Control.zero, 12) := by
  obtain ⟨e0, e1, e2, e3, e4, e5, e6, e7, e8, e9, e12, e13, e15, e18, e19, e20, e21⟩ := known_not h
  unfold cDecode
  rw [e5, cond_false, e6, cond_false, e18, cond_false, e19, cond_false, e8, cond_false, e9, cond_false, e20, cond_false, e21, cond_false, e0, cond_false, e1, cond_false, e15, cond_false, e2, cond_false, e3, cond_false, e4, cond_false, e7, cond_false, e12, cond_false, e13, cond_false]
def takeV (K : Int) (t : List Int) : List Int := (takeL t [] (szK K)).1
def decS (K : Int) (t : List Int) : Control × Int :=
  cond (decide ((t.length : Int) < (szK K).sum)) (Control.zero, 3) (cond (decide ((szK K).sum < (t.length : Int))) (Control.zero, 2) (cond (cCheck (setK K (takeV K t)) != 0) (Control.zero, cCheck (setK K (takeV K t))) (setK K (takeV K t), 0)))
def ctl (K : Int) : Control := ⟨K, ⟨0, 0, 0, 0, 0⟩, 0, 0, 0, 0, 0, 0, 0, 0, 0⟩
theorem szK_ok (K : Int) (hk : known K = true) : (szK K).length ≤ 6 ∧ (szK K).sum ≤ 16 ∧ (szK K).all okSize = true ∧ 0 ≤ K ∧ K < 256 ∧ r26size K = 1 + (szK K).sum := (fldK_len (ctl K) hk).2
theorem rest_len (K : Int) (t : List Int) (hk : known K = true) (hb : Bytes t) (hs : (szK K).sum ≤ t.length) : ∃ r, takeL t [] (szK K) = (takeV K t, r, 0) ∧ flat (zipF (szK K) (takeV K t)) ++ r = t ∧ (r.length : Int) = t.length - (szK K).sum ∧ (takeV K t).length = (szK K).length ∧ (∀ k, 0 ≤ (takeV K t).getD k 0 ∧ (takeV K t).getD k 0 < 256 ^ ((szK K).getD k 0).toNat) := by
  obtain ⟨l, r, e, _⟩ := takeL_spec (szK K) t []
  rw [List.nil_append] at e
  obtain ⟨_, _, h3, _⟩ := szK_ok K hk
  obtain ⟨p1, p2, p3, p4⟩ := put_take (szK K) t hb h3 hs l r e
  have e0 : takeV K t = l := by unfold takeV; rw [e]
  rw [e0]
  have q := put_len _ p3
  have q2 : (List.zipWith (fun s v => (⟨s, v⟩ : Field)) (szK K) l).map (·.Size) = szK K := by
    rw [List.map_zipWith]
    have : ∀ (a b : List Int), b.length = a.length → List.zipWith (fun s v => (⟨s, v⟩ : Field).Size) a b = a := by
      intro a
      induction a with
      | nil => intro b _; simp
      | cons x a ih =>
        intro b hb
        cases b with
        | nil => simp at hb
        | cons y b => simp only [List.zipWith_cons_cons]; rw [ih b (by simpa using hb)]
    exact this _ _ p1
  rw [q2] at q
  refine ⟨r, e, p2, ?_, p1, p4⟩
  have := congrArg List.length p2
  rw [List.length_append] at this
  omega
theorem decG_eq (K x : Int) (t : List Int) (hk : known K = true) (hb : Bytes t) : decG K (x :: t) = decS K t := by
  obtain ⟨h1, h2, h3, _⟩ := szK_ok K hk
  unfold decG decS
  rw [show List.drop (Int.toNat (1 : Int)) (List.take (Int.toNat ((x :: t).length : Int)) (x :: t)) = t by
    rw [show Int.toNat ((x :: t).length : Int) = (x :: t).length by omega, List.take_length]; rfl]
  rw [show (((x :: t).length : Int) == 0) = false by simp; omega, cond_false, oTake_eq t _ hb (by omega)]
  unfold takeA
  rw [h3, cond_true]
  by_cases hs : (t.length : Int) < (szK K).sum
  · rw [decide_eq_true hs]; rfl
  · obtain ⟨r, e, _, e3, _⟩ := rest_len K t hk hb (by omega)
    rw [decide_eq_false hs, cond_false, cond_false, e]
    dsimp only
    rw [show ((0 : Int) != 0) = false from rfl, cond_false]
    by_cases h2 : (szK K).sum < t.length
    · rw [decide_eq_true h2, decide_eq_true (by omega)]
    · rw [decide_eq_false h2, decide_eq_false (by omega)]
theorem cDecode_eq (x : Int) (t : List Int) (hb : Bytes (x :: t)) : cDecode (x :: t) = cond (known x) (decS x t) (Control.zero, 12) := by
  have hx := hb x (by simp)
  have ht : Bytes t := fun y hy => hb y (by simp [hy])
  have hw : IntKind.wrap IntKind.i64 (List.getD (x :: t) (Int.toNat (0 : Int)) (0 : Int)) = x := wi64 x (by omega) (by omega)
  cases hk : known x
  · rw [cDecode_unknown _ (by rw [hw]; exact hk), show (((x :: t).length : Int) == 0) = false by simp; omega]; rfl
  · rw [cDecode_known _ x hw hk, decG_eq x x t hk ht]; rfl
theorem cDecode_nil : cDecode [] = (Control.zero, 3) := by
  unfold cDecode; rfl
theorem r23Num_go (b : List Int) (p size : Int) (hb : Bytes b) (hp : 0 ≤ p) (hs : size ≤ 8) (hl : p + size ≤ b.length) (hp2 : p ≤ 1099511627776) : ∀ (n : Nat) (i y : Int), -1 ≤ i → i < size → (i + 1).toNat < n → y = val8 (((b.drop p.toNat).take size.toNat).drop (i + 1).toNat) → r23Num.go b p size n i y = val8 ((b.drop p.toNat).take size.toNat)
  | 0, i, y, h0, h1, h2, hy => by omega
  | n + 1, i, y, h0, h1, h2, hy => by
    unfold r23Num.go
    by_cases hi : 0 ≤ i
    · have hbd := val8_bound _ ((((hb.drop p.toNat).take size.toNat)).drop i.toNat)
      have hlen : (((b.drop p.toNat).take size.toNat).drop i.toNat).length ≤ 8 := by rw [List.length_drop, List.length_take]; omega
      have hpow : (256 : Int) ^ (((b.drop p.toNat).take size.toNat).drop i.toNat).length ≤ 18446744073709551616 := pow256_le hlen
      have hg : ((b.drop p.toNat).take size.toNat).drop i.toNat = List.getD b (p + i).toNat 0 :: ((b.drop p.toNat).take size.toNat).drop (i + 1).toNat := by
        rw [getD_drop ((b.drop p.toNat).take size.toNat) 0 i hi (by rw [List.length_take, List.length_drop]; omega)]
        congr 1
        rw [List.getD_eq_getElem?_getD, List.getElem?_take_of_lt (by omega), List.getElem?_drop, List.getD_eq_getElem?_getD, show p.toNat + i.toNat = (p + i).toNat by omega]
      have hx := hb.getD (p + i).toNat
      rw [hg, val8] at hbd
      rw [hg] at hpow
      rw [decide_eq_true hi, cond_true, wi64 (p + i) (by omega) (by omega), wi64 (i - (1 : Int)) (by omega) (by omega)]
      refine r23Num_go b p size hb hp hs hl hp2 n _ _ (by omega) (by omega) (by omega) ?_
      rw [show (i - 1 + 1).toNat = i.toNat by omega, hg, val8, ← hy]
      rw [← hy] at hbd
      have hy0 : 0 ≤ y := by rw [hy]; exact (val8_bound _ ((((hb.drop p.toNat).take size.toNat)).drop (i + 1).toNat)).1
      rw [wu64 _ hx.1 (by omega), wu64 (y * 256) (by omega) (by omega), wu64 _ (by omega) (by omega)]
      omega
    · rw [decide_eq_false hi, cond_false, hy, show (i + 1).toNat = 0 by omega, List.drop_zero]
theorem num_eq (b : List Int) (p size : Int) (hb : Bytes b) (hp : 0 ≤ p) (h1 : 1 ≤ size) (hs : size ≤ 8) (hl : p + size ≤ b.length) (hp2 : p ≤ 1099511627776) : r23Num b p size = val8 ((b.drop p.toNat).take size.toNat) := by
  unfold r23Num
  rw [wi64 (size - (1 : Int)) (by omega) (by omega)]
  refine r23Num_go b p size hb hp hs hl hp2 _ _ _ (by omega) (by omega) (by omega) ?_
  rw [List.drop_of_length_le (by rw [List.length_take]; omega)]; rfl
theorem byte_at (b : List Int) (p : Nat) (h : p < b.length) : List.getD b p 0 = val8 ((b.drop p).take 1) := by
  rw [List.drop_eq_getElem_cons h, List.take_succ_cons, List.take_zero]
  simp [val8, List.getD, List.getElem?_eq_getElem h]
theorem tk0 (x : Int) (t : List Int) (hb : Bytes (x :: t)) (hl : (t.length : Int) = 11) : r26taken (ctl 0) (x :: t) = setK 0 (takeV 0 t) := by
  have e1 : r26taken (ctl 0) (x :: t) = ⟨0, ⟨IntKind.wrap .i64 (r23Num (x :: t) 1 1), IntKind.wrap .i64 (r23Num (x :: t) 2 2), IntKind.wrap .i64 (r23Num (x :: t) 4 2), IntKind.wrap .i64 (r23Num (x :: t) 6 2), IntKind.wrap .i64 (r23Num (x :: t) 8 2)⟩, 0, IntKind.wrap .u16 (r23Num (x :: t) 10 2), 0, 0, 0, 0, 0, 0, 0⟩ := by kernel_rfl
  have e2 : setK 0 (takeV 0 t) = ⟨0, ⟨IntKind.wrap .i64 (val8 (List.take 1 t)), IntKind.wrap .i64 (val8 (List.take 2 (List.drop 1 t))), IntKind.wrap .i64 (val8 (List.take 2 (List.drop 2 (List.drop 1 t)))), IntKind.wrap .i64 (val8 (List.take 2 (List.drop 2 (List.drop 2 (List.drop 1 t))))), IntKind.wrap .i64 (val8 (List.take 2 (List.drop 2 (List.drop 2 (List.drop 2 (List.drop 1 t))))))⟩, 0, IntKind.wrap .u16 (val8 (List.take 2 (List.drop 2 (List.drop 2 (List.drop 2 (List.drop 2 (List.drop 1 t))))))), 0, 0, 0, 0, 0, 0, 0⟩ := by kernel_rfl
  rw [e1, e2]
  have hl2 : (x :: t).length = t.length + 1 := rfl
  rw [num_eq (x :: t) 1 1 hb (by decide) (by decide) (by decide) (by omega) (by decide), num_eq (x :: t) 2 2 hb (by decide) (by decide) (by decide) (by omega) (by decide), num_eq (x :: t) 4 2 hb (by decide) (by decide) (by decide) (by omega) (by decide), num_eq (x :: t) 6 2 hb (by decide) (by decide) (by decide) (by omega) (by decide), num_eq (x :: t) 8 2 hb (by decide) (by decide) (by decide) (by omega) (by decide), num_eq (x :: t) 10 2 hb (by decide) (by decide) (by decide) (by omega) (by decide)]
  try simp only [List.drop_drop]
  rfl
theorem vb0 (v0 v1 v2 v3 v4 v5 : Int) (h0 : 0 ≤ v0 ∧ v0 < 256) (h1 : 0 ≤ v1 ∧ v1 < 65536) (h2 : 0 ≤ v2 ∧ v2 < 65536) (h3 : 0 ≤ v3 ∧ v3 < 65536) (h4 : 0 ≤ v4 ∧ v4 < 65536) (h5 : 0 ≤ v5 ∧ v5 < 65536) : valK (setK 0 [v0, v1, v2, v3, v4, v5]) = [v0, v1, v2, v3, v4, v5] ∧ (setK 0 [v0, v1, v2, v3, v4, v5]).has := by
  refine ⟨?_, ?_⟩
  · show [IntKind.wrap .u64 (IntKind.wrap .i64 (v0)), IntKind.wrap .u64 (IntKind.wrap .i64 (v1)), IntKind.wrap .u64 (IntKind.wrap .i64 (v2)), IntKind.wrap .u64 (IntKind.wrap .i64 (v3)), IntKind.wrap .u64 (IntKind.wrap .i64 (v4)), IntKind.wrap .u64 (IntKind.wrap .u16 (v5))] = [v0, v1, v2, v3, v4, v5]
    rw [wi64 v0 (by omega) (by omega), wu64 v0 (by omega) (by omega), wi64 v1 (by omega) (by omega), wu64 v1 (by omega) (by omega), wi64 v2 (by omega) (by omega), wu64 v2 (by omega) (by omega), wi64 v3 (by omega) (by omega), wu64 v3 (by omega) (by omega), wi64 v4 (by omega) (by omega), wu64 v4 (by omega) (by omega), wu16m v5, Int.emod_eq_of_lt (by omega) (by omega), wu64 v5 (by omega) (by omega)]
  · exact ⟨lit_has 0 (by decide) (by decide), ⟨has_64 _, has_64 _, has_64 _, has_64 _, has_64 _⟩, zero_has _, has_16 _, zero_has _, zero_has _, zero_has _, zero_has _, zero_has _, zero_has _, zero_has _⟩
theorem tk1 (x : Int) (t : List Int) (hb : Bytes (x :: t)) (hl : (t.length : Int) = 7) : r26taken (ctl 1) (x :: t) = setK 1 (takeV 1 t) := by
  have e1 : r26taken (ctl 1) (x :: t) = ⟨1, ⟨0, 0, 0, 0, 0⟩, r23Num (x :: t) 1 5, IntKind.wrap .u16 (r23Num (x :: t) 6 2), 0, 0, 0, 0, 0, 0, 0⟩ := by kernel_rfl
  have e2 : setK 1 (takeV 1 t) = ⟨1, ⟨0, 0, 0, 0, 0⟩, val8 (List.take 5 t), IntKind.wrap .u16 (val8 (List.take 2 (List.drop 5 t))), 0, 0, 0, 0, 0, 0, 0⟩ := by kernel_rfl
  rw [e1, e2]
  have hl2 : (x :: t).length = t.length + 1 := rfl
  rw [num_eq (x :: t) 1 5 hb (by decide) (by decide) (by decide) (by omega) (by decide), num_eq (x :: t) 6 2 hb (by decide) (by decide) (by decide) (by omega) (by decide)]
  try simp only [List.drop_drop]
  rfl
theorem vb1 (v0 v1 : Int) (h0 : 0 ≤ v0 ∧ v0 < 1099511627776) (h1 : 0 ≤ v1 ∧ v1 < 65536) : valK (setK 1 [v0, v1]) = [v0, v1] ∧ (setK 1 [v0, v1]).has := by
  refine ⟨?_, ?_⟩
  · show [v0, IntKind.wrap .u64 (IntKind.wrap .u16 (v1))] = [v0, v1]
    rw [wu16m v1, Int.emod_eq_of_lt (by omega) (by omega), wu64 v1 (by omega) (by omega)]
  · exact ⟨lit_has 1 (by decide) (by decide), ⟨zero_has _, zero_has _, zero_has _, zero_has _, zero_has _⟩, has_U v0 (by omega) (by omega), has_16 _, zero_has _, zero_has _, zero_has _, zero_has _, zero_has _, zero_has _, zero_has _⟩
theorem tk2 (x : Int) (t : List Int) (hb : Bytes (x :: t)) (hl : (t.length : Int) = 1) : r26taken (ctl 2) (x :: t) = setK 2 (takeV 2 t) := by
  have e1 : r26taken (ctl 2) (x :: t) = ⟨2, ⟨0, 0, 0, 0, 0⟩, 0, 0, IntKind.wrap .i64 (List.getD (x :: t) 1 0), 0, 0, 0, 0, 0, 0⟩ := by kernel_rfl
  have e2 : setK 2 (takeV 2 t) = ⟨2, ⟨0, 0, 0, 0, 0⟩, 0, 0, IntKind.wrap .i64 (val8 (List.take 1 t)), 0, 0, 0, 0, 0, 0⟩ := by kernel_rfl
  rw [e1, e2]
  have hl2 : (x :: t).length = t.length + 1 := rfl
  rw [byte_at (x :: t) 1 (by omega)]
  try simp only [List.drop_drop]
  rfl
theorem vb2 (v0 : Int) (h0 : 0 ≤ v0 ∧ v0 < 256) : valK (setK 2 [v0]) = [v0] ∧ (setK 2 [v0]).has := by
  refine ⟨?_, ?_⟩
  · show [IntKind.wrap .u64 (IntKind.wrap .i64 (v0))] = [v0]
    rw [wi64 v0 (by omega) (by omega), wu64 v0 (by omega) (by omega)]
  · exact ⟨lit_has 2 (by decide) (by decide), ⟨zero_has _, zero_has _, zero_has _, zero_has _, zero_has _⟩, zero_has _, zero_has _, has_64 _, zero_has _, zero_has _, zero_has _, zero_has _, zero_has _, zero_has _⟩
theorem tk3 (x : Int) (t : List Int) (hb : Bytes (x :: t)) (hl : (t.length : Int) = 16) : r26taken (ctl 3) (x :: t) = setK 3 (takeV 3 t) := by
  have e1 : r26taken (ctl 3) (x :: t) = ⟨3, ⟨0, 0, 0, 0, 0⟩, 0, 0, 0, 0, r23Num (x :: t) 1 8, r23Num (x :: t) 9 8, 0, 0, 0⟩ := by kernel_rfl
  have e2 : setK 3 (takeV 3 t) = ⟨3, ⟨0, 0, 0, 0, 0⟩, 0, 0, 0, 0, val8 (List.take 8 t), val8 (List.take 8 (List.drop 8 t)), 0, 0, 0⟩ := by kernel_rfl
  rw [e1, e2]
  have hl2 : (x :: t).length = t.length + 1 := rfl
  rw [num_eq (x :: t) 1 8 hb (by decide) (by decide) (by decide) (by omega) (by decide), num_eq (x :: t) 9 8 hb (by decide) (by decide) (by decide) (by omega) (by decide)]
  try simp only [List.drop_drop]
  rfl
theorem vb3 (v0 v1 : Int) (h0 : 0 ≤ v0 ∧ v0 < 18446744073709551616) (h1 : 0 ≤ v1 ∧ v1 < 18446744073709551616) : valK (setK 3 [v0, v1]) = [v0, v1] ∧ (setK 3 [v0, v1]).has := by
  refine ⟨?_, ?_⟩
  · show [v0, v1] = [v0, v1]
    rfl
  · exact ⟨lit_has 3 (by decide) (by decide), ⟨zero_has _, zero_has _, zero_has _, zero_has _, zero_has _⟩, zero_has _, zero_has _, zero_has _, zero_has _, has_U v0 (by omega) (by omega), has_U v1 (by omega) (by omega), zero_has _, zero_has _, zero_has _⟩
theorem tk4 (x : Int) (t : List Int) (hb : Bytes (x :: t)) (hl : (t.length : Int) = 8) : r26taken (ctl 4) (x :: t) = setK 4 (takeV 4 t) := by
  have e1 : r26taken (ctl 4) (x :: t) = ⟨4, ⟨0, 0, 0, 0, 0⟩, 0, 0, 0, 0, r23Num (x :: t) 1 8, 0, 0, 0, 0⟩ := by kernel_rfl
  have e2 : setK 4 (takeV 4 t) = ⟨4, ⟨0, 0, 0, 0, 0⟩, 0, 0, 0, 0, val8 (List.take 8 t), 0, 0, 0, 0⟩ := by kernel_rfl
  rw [e1, e2]
  have hl2 : (x :: t).length = t.length + 1 := rfl
  rw [num_eq (x :: t) 1 8 hb (by decide) (by decide) (by decide) (by omega) (by decide)]
  try simp only [List.drop_drop]
  rfl
theorem vb4 (v0 : Int) (h0 : 0 ≤ v0 ∧ v0 < 18446744073709551616) : valK (setK 4 [v0]) = [v0] ∧ (setK 4 [v0]).has := by
  refine ⟨?_, ?_⟩
  · show [v0] = [v0]
    rfl
  · exact ⟨lit_has 4 (by decide) (by decide), ⟨zero_has _, zero_has _, zero_has _, zero_has _, zero_has _⟩, zero_has _, zero_has _, zero_has _, zero_has _, has_U v0 (by omega) (by omega), zero_has _, zero_has _, zero_has _, zero_has _⟩
theorem tk5 (x : Int) (t : List Int) (hb : Bytes (x :: t)) (hl : (t.length : Int) = 0) : r26taken (ctl 5) (x :: t) = setK 5 (takeV 5 t) := by
  have e1 : r26taken (ctl 5) (x :: t) = ⟨5, ⟨0, 0, 0, 0, 0⟩, 0, 0, 0, 0, 0, 0, 0, 0, 0⟩ := by kernel_rfl
  have e2 : setK 5 (takeV 5 t) = ⟨5, ⟨0, 0, 0, 0, 0⟩, 0, 0, 0, 0, 0, 0, 0, 0, 0⟩ := by kernel_rfl
  rw [e1, e2]
theorem vb5  : valK (setK 5 []) = [] ∧ (setK 5 []).has := by
  refine ⟨?_, ?_⟩
  · show [] = []
    rfl
  · exact ⟨lit_has 5 (by decide) (by decide), ⟨zero_has _, zero_has _, zero_has _, zero_has _, zero_has _⟩, zero_has _, zero_has _, zero_has _, zero_has _, zero_has _, zero_has _, zero_has _, zero_has _, zero_has _⟩
theorem tk6 (x : Int) (t : List Int) (hb : Bytes (x :: t)) (hl : (t.length : Int) = 0) : r26taken (ctl 6) (x :: t) = setK 6 (takeV 6 t) := by
  have e1 : r26taken (ctl 6) (x :: t) = ⟨6, ⟨0, 0, 0, 0, 0⟩, 0, 0, 0, 0, 0, 0, 0, 0, 0⟩ := by kernel_rfl
  have e2 : setK 6 (takeV 6 t) = ⟨6, ⟨0, 0, 0, 0, 0⟩, 0, 0, 0, 0, 0, 0, 0, 0, 0⟩ := by kernel_rfl
  rw [e1, e2]
theorem vb6  : valK (setK 6 []) = [] ∧ (setK 6 []).has := by
  refine ⟨?_, ?_⟩
  · show [] = []
    rfl
  · exact ⟨lit_has 6 (by decide) (by decide), ⟨zero_has _, zero_has _, zero_has _, zero_has _, zero_has _⟩, zero_has _, zero_has _, zero_has _, zero_has _, zero_has _, zero_has _, zero_has _, zero_has _, zero_has _⟩
theorem tk7 (x : Int) (t : List Int) (hb : Bytes (x :: t)) (hl : (t.length : Int) = 1) : r26taken (ctl 7) (x :: t) = setK 7 (takeV 7 t) := by
  have e1 : r26taken (ctl 7) (x :: t) = ⟨7, ⟨0, 0, 0, 0, 0⟩, 0, 0, 0, IntKind.wrap .i64 (List.getD (x :: t) 1 0), 0, 0, 0, 0, 0⟩ := by kernel_rfl
  have e2 : setK 7 (takeV 7 t) = ⟨7, ⟨0, 0, 0, 0, 0⟩, 0, 0, 0, IntKind.wrap .i64 (val8 (List.take 1 t)), 0, 0, 0, 0, 0⟩ := by kernel_rfl
  rw [e1, e2]
  have hl2 : (x :: t).length = t.length + 1 := rfl
  rw [byte_at (x :: t) 1 (by omega)]
  try simp only [List.drop_drop]
  rfl
theorem vb7 (v0 : Int) (h0 : 0 ≤ v0 ∧ v0 < 256) : valK (setK 7 [v0]) = [v0] ∧ (setK 7 [v0]).has := by
  refine ⟨?_, ?_⟩
  · show [IntKind.wrap .u64 (IntKind.wrap .i64 (v0))] = [v0]
    rw [wi64 v0 (by omega) (by omega), wu64 v0 (by omega) (by omega)]
  · exact ⟨lit_has 7 (by decide) (by decide), ⟨zero_has _, zero_has _, zero_has _, zero_has _, zero_has _⟩, zero_has _, zero_has _, zero_has _, has_64 _, zero_has _, zero_has _, zero_has _, zero_has _, zero_has _⟩
theorem tk8 (x : Int) (t : List Int) (hb : Bytes (x :: t)) (hl : (t.length : Int) = 8) : r26taken (ctl 8) (x :: t) = setK 8 (takeV 8 t) := by
  have e1 : r26taken (ctl 8) (x :: t) = ⟨8, ⟨0, 0, 0, 0, 0⟩, 0, 0, 0, 0, 0, 0, r23Num (x :: t) 1 8, 0, 0⟩ := by kernel_rfl
  have e2 : setK 8 (takeV 8 t) = ⟨8, ⟨0, 0, 0, 0, 0⟩, 0, 0, 0, 0, 0, 0, val8 (List.take 8 t), 0, 0⟩ := by kernel_rfl
  rw [e1, e2]
  have hl2 : (x :: t).length = t.length + 1 := rfl
  rw [num_eq (x :: t) 1 8 hb (by decide) (by decide) (by decide) (by omega) (by decide)]
  try simp only [List.drop_drop]
  rfl
theorem vb8 (v0 : Int) (h0 : 0 ≤ v0 ∧ v0 < 18446744073709551616) : valK (setK 8 [v0]) = [v0] ∧ (setK 8 [v0]).has := by
  refine ⟨?_, ?_⟩
  · show [v0] = [v0]
    rfl
  · exact ⟨lit_has 8 (by decide) (by decide), ⟨zero_has _, zero_has _, zero_has _, zero_has _, zero_has _⟩, zero_has _, zero_has _, zero_has _, zero_has _, zero_has _, zero_has _, has_U v0 (by omega) (by omega), zero_has _, zero_has _⟩
theorem tk9 (x : Int) (t : List Int) (hb : Bytes (x :: t)) (hl : (t.length : Int) = 8) : r26taken (ctl 9) (x :: t) = setK 9 (takeV 9 t) := by
  have e1 : r26taken (ctl 9) (x :: t) = ⟨9, ⟨0, 0, 0, 0, 0⟩, 0, 0, 0, 0, 0, 0, r23Num (x :: t) 1 8, 0, 0⟩ := by kernel_rfl
  have e2 : setK 9 (takeV 9 t) = ⟨9, ⟨0, 0, 0, 0, 0⟩, 0, 0, 0, 0, 0, 0, val8 (List.take 8 t), 0, 0⟩ := by kernel_rfl
  rw [e1, e2]
  have hl2 : (x :: t).length = t.length + 1 := rfl
  rw [num_eq (x :: t) 1 8 hb (by decide) (by decide) (by decide) (by omega) (by decide)]
  try simp only [List.drop_drop]
  rfl
theorem vb9 (v0 : Int) (h0 : 0 ≤ v0 ∧ v0 < 18446744073709551616) : valK (setK 9 [v0]) = [v0] ∧ (setK 9 [v0]).has := by
  refine ⟨?_, ?_⟩
  · show [v0] = [v0]
    rfl
  · exact ⟨lit_has 9 (by decide) (by decide), ⟨zero_has _, zero_has _, zero_has _, zero_has _, zero_has _⟩, zero_has _, zero_has _, zero_has _, zero_has _, zero_has _, zero_has _, has_U v0 (by omega) (by omega), zero_has _, zero_has _⟩
theorem tk12 (x : Int) (t : List Int) (hb : Bytes (x :: t)) (hl : (t.length : Int) = 1) : r26taken (ctl 12) (x :: t) = setK 12 (takeV 12 t) := by
  have e1 : r26taken (ctl 12) (x :: t) = ⟨12, ⟨0, 0, 0, 0, 0⟩, 0, 0, 0, 0, 0, 0, 0, IntKind.wrap .i64 (List.getD (x :: t) 1 0), 0⟩ := by kernel_rfl
  have e2 : setK 12 (takeV 12 t) = ⟨12, ⟨0, 0, 0, 0, 0⟩, 0, 0, 0, 0, 0, 0, 0, IntKind.wrap .i64 (val8 (List.take 1 t)), 0⟩ := by kernel_rfl
  rw [e1, e2]
  have hl2 : (x :: t).length = t.length + 1 := rfl
  rw [byte_at (x :: t) 1 (by omega)]
  try simp only [List.drop_drop]
  rfl
theorem vb12 (v0 : Int) (h0 : 0 ≤ v0 ∧ v0 < 256) : valK (setK 12 [v0]) = [v0] ∧ (setK 12 [v0]).has := by
  refine ⟨?_, ?_⟩
  · show [IntKind.wrap .u64 (IntKind.wrap .i64 (v0))] = [v0]
    rw [wi64 v0 (by omega) (by omega), wu64 v0 (by omega) (by omega)]
  · exact ⟨lit_has 12 (by decide) (by decide), ⟨zero_has _, zero_has _, zero_has _, zero_has _, zero_has _⟩, zero_has _, zero_has _, zero_has _, zero_has _, zero_has _, zero_has _, zero_has _, has_64 _, zero_has _⟩
theorem tk13 (x : Int) (t : List Int) (hb : Bytes (x :: t)) (hl : (t.length : Int) = 2) : r26taken (ctl 13) (x :: t) = setK 13 (takeV 13 t) := by
  have e1 : r26taken (ctl 13) (x :: t) = ⟨13, ⟨0, 0, 0, 0, 0⟩, 0, 0, IntKind.wrap .i64 (List.getD (x :: t) 1 0), IntKind.wrap .i64 (List.getD (x :: t) 2 0), 0, 0, 0, 0, 0⟩ := by kernel_rfl
  have e2 : setK 13 (takeV 13 t) = ⟨13, ⟨0, 0, 0, 0, 0⟩, 0, 0, IntKind.wrap .i64 (val8 (List.take 1 t)), IntKind.wrap .i64 (val8 (List.take 1 (List.drop 1 t))), 0, 0, 0, 0, 0⟩ := by kernel_rfl
  rw [e1, e2]
  have hl2 : (x :: t).length = t.length + 1 := rfl
  rw [byte_at (x :: t) 1 (by omega), byte_at (x :: t) 2 (by omega)]
  try simp only [List.drop_drop]
  rfl
theorem vb13 (v0 v1 : Int) (h0 : 0 ≤ v0 ∧ v0 < 256) (h1 : 0 ≤ v1 ∧ v1 < 256) : valK (setK 13 [v0, v1]) = [v0, v1] ∧ (setK 13 [v0, v1]).has := by
  refine ⟨?_, ?_⟩
  · show [IntKind.wrap .u64 (IntKind.wrap .i64 (v0)), IntKind.wrap .u64 (IntKind.wrap .i64 (v1))] = [v0, v1]
    rw [wi64 v0 (by omega) (by omega), wu64 v0 (by omega) (by omega), wi64 v1 (by omega) (by omega), wu64 v1 (by omega) (by omega)]
  · exact ⟨lit_has 13 (by decide) (by decide), ⟨zero_has _, zero_has _, zero_has _, zero_has _, zero_has _⟩, zero_has _, zero_has _, has_64 _, has_64 _, zero_has _, zero_has _, zero_has _, zero_has _, zero_has _⟩
theorem tk15 (x : Int) (t : List Int) (hb : Bytes (x :: t)) (hl : (t.length : Int) = 9) : r26taken (ctl 15) (x :: t) = setK 15 (takeV 15 t) := by
  have e1 : r26taken (ctl 15) (x :: t) = ⟨15, ⟨IntKind.wrap .i64 (r23Num (x :: t) 1 1), IntKind.wrap .i64 (r23Num (x :: t) 2 2), IntKind.wrap .i64 (r23Num (x :: t) 4 2), IntKind.wrap .i64 (r23Num (x :: t) 6 2), IntKind.wrap .i64 (r23Num (x :: t) 8 2)⟩, 0, 0, 0, 0, 0, 0, 0, 0, 0⟩ := by kernel_rfl
  have e2 : setK 15 (takeV 15 t) = ⟨15, ⟨IntKind.wrap .i64 (val8 (List.take 1 t)), IntKind.wrap .i64 (val8 (List.take 2 (List.drop 1 t))), IntKind.wrap .i64 (val8 (List.take 2 (List.drop 2 (List.drop 1 t)))), IntKind.wrap .i64 (val8 (List.take 2 (List.drop 2 (List.drop 2 (List.drop 1 t))))), IntKind.wrap .i64 (val8 (List.take 2 (List.drop 2 (List.drop 2 (List.drop 2 (List.drop 1 t))))))⟩, 0, 0, 0, 0, 0, 0, 0, 0, 0⟩ := by kernel_rfl
  rw [e1, e2]
  have hl2 : (x :: t).length = t.length + 1 := rfl
  rw [num_eq (x :: t) 1 1 hb (by decide) (by decide) (by decide) (by omega) (by decide), num_eq (x :: t) 2 2 hb (by decide) (by decide) (by decide) (by omega) (by decide), num_eq (x :: t) 4 2 hb (by decide) (by decide) (by decide) (by omega) (by decide), num_eq (x :: t) 6 2 hb (by decide) (by decide) (by decide) (by omega) (by decide), num_eq (x :: t) 8 2 hb (by decide) (by decide) (by decide) (by omega) (by decide)]
  try simp only [List.drop_drop]
  rfl
theorem vb15 (v0 v1 v2 v3 v4 : Int) (h0 : 0 ≤ v0 ∧ v0 < 256) (h1 : 0 ≤ v1 ∧ v1 < 65536) (h2 : 0 ≤ v2 ∧ v2 < 65536) (h3 : 0 ≤ v3 ∧ v3 < 65536) (h4 : 0 ≤ v4 ∧ v4 < 65536) : valK (setK 15 [v0, v1, v2, v3, v4]) = [v0, v1, v2, v3, v4] ∧ (setK 15 [v0, v1, v2, v3, v4]).has := by
  refine ⟨?_, ?_⟩
  · show [IntKind.wrap .u64 (IntKind.wrap .i64 (v0)), IntKind.wrap .u64 (IntKind.wrap .i64 (v1)), IntKind.wrap .u64 (IntKind.wrap .i64 (v2)), IntKind.wrap .u64 (IntKind.wrap .i64 (v3)), IntKind.wrap .u64 (IntKind.wrap .i64 (v4))] = [v0, v1, v2, v3, v4]
    rw [wi64 v0 (by omega) (by omega), wu64 v0 (by omega) (by omega), wi64 v1 (by omega) (by omega), wu64 v1 (by omega) (by omega), wi64 v2 (by omega) (by omega), wu64 v2 (by omega) (by omega), wi64 v3 (by omega) (by omega), wu64 v3 (by omega) (by omega), wi64 v4 (by omega) (by omega), wu64 v4 (by omega) (by omega)]
  · exact ⟨lit_has 15 (by decide) (by decide), ⟨has_64 _, has_64 _, has_64 _, has_64 _, has_64 _⟩, zero_has _, zero_has _, zero_has _, zero_has _, zero_has _, zero_has _, zero_has _, zero_has _, zero_has _⟩
theorem tk18 (x : Int) (t : List Int) (hb : Bytes (x :: t)) (hl : (t.length : Int) = 0) : r26taken (ctl 18) (x :: t) = setK 18 (takeV 18 t) := by
  have e1 : r26taken (ctl 18) (x :: t) = ⟨18, ⟨0, 0, 0, 0, 0⟩, 0, 0, 0, 0, 0, 0, 0, 0, 0⟩ := by kernel_rfl
  have e2 : setK 18 (takeV 18 t) = ⟨18, ⟨0, 0, 0, 0, 0⟩, 0, 0, 0, 0, 0, 0, 0, 0, 0⟩ := by kernel_rfl
  rw [e1, e2]
theorem vb18  : valK (setK 18 []) = [] ∧ (setK 18 []).has := by
  refine ⟨?_, ?_⟩
  · show [] = []
    rfl
  · exact ⟨lit_has 18 (by decide) (by decide), ⟨zero_has _, zero_has _, zero_has _, zero_has _, zero_has _⟩, zero_has _, zero_has _, zero_has _, zero_has _, zero_has _, zero_has _, zero_has _, zero_has _, zero_has _⟩
theorem tk19 (x : Int) (t : List Int) (hb : Bytes (x :: t)) (hl : (t.length : Int) = 0) : r26taken (ctl 19) (x :: t) = setK 19 (takeV 19 t) := by
  have e1 : r26taken (ctl 19) (x :: t) = ⟨19, ⟨0, 0, 0, 0, 0⟩, 0, 0, 0, 0, 0, 0, 0, 0, 0⟩ := by kernel_rfl
  have e2 : setK 19 (takeV 19 t) = ⟨19, ⟨0, 0, 0, 0, 0⟩, 0, 0, 0, 0, 0, 0, 0, 0, 0⟩ := by kernel_rfl
  rw [e1, e2]
theorem vb19  : valK (setK 19 []) = [] ∧ (setK 19 []).has := by
  refine ⟨?_, ?_⟩
  · show [] = []
    rfl
  · exact ⟨lit_has 19 (by decide) (by decide), ⟨zero_has _, zero_has _, zero_has _, zero_has _, zero_has _⟩, zero_has _, zero_has _, zero_has _, zero_has _, zero_has _, zero_has _, zero_has _, zero_has _, zero_has _⟩
theorem tk20 (x : Int) (t : List Int) (hb : Bytes (x :: t)) (hl : (t.length : Int) = 1) : r26taken (ctl 20) (x :: t) = setK 20 (takeV 20 t) := by
  have e1 : r26taken (ctl 20) (x :: t) = ⟨20, ⟨0, 0, 0, 0, 0⟩, 0, 0, 0, 0, 0, 0, 0, 0, IntKind.wrap .i64 (List.getD (x :: t) 1 0)⟩ := by kernel_rfl
  have e2 : setK 20 (takeV 20 t) = ⟨20, ⟨0, 0, 0, 0, 0⟩, 0, 0, 0, 0, 0, 0, 0, 0, IntKind.wrap .i64 (val8 (List.take 1 t))⟩ := by kernel_rfl
  rw [e1, e2]
  have hl2 : (x :: t).length = t.length + 1 := rfl
  rw [byte_at (x :: t) 1 (by omega)]
  try simp only [List.drop_drop]
  rfl
theorem vb20 (v0 : Int) (h0 : 0 ≤ v0 ∧ v0 < 256) : valK (setK 20 [v0]) = [v0] ∧ (setK 20 [v0]).has := by
  refine ⟨?_, ?_⟩
  · show [IntKind.wrap .u64 (IntKind.wrap .i64 (v0))] = [v0]
    rw [wi64 v0 (by omega) (by omega), wu64 v0 (by omega) (by omega)]
  · exact ⟨lit_has 20 (by decide) (by decide), ⟨zero_has _, zero_has _, zero_has _, zero_has _, zero_has _⟩, zero_has _, zero_has _, zero_has _, zero_has _, zero_has _, zero_has _, zero_has _, zero_has _, has_64 _⟩
theorem tk21 (x : Int) (t : List Int) (hb : Bytes (x :: t)) (hl : (t.length : Int) = 1) : r26taken (ctl 21) (x :: t) = setK 21 (takeV 21 t) := by
  have e1 : r26taken (ctl 21) (x :: t) = ⟨21, ⟨0, 0, 0, 0, 0⟩, 0, 0, 0, 0, 0, 0, 0, 0, IntKind.wrap .i64 (List.getD (x :: t) 1 0)⟩ := by kernel_rfl
  have e2 : setK 21 (takeV 21 t) = ⟨21, ⟨0, 0, 0, 0, 0⟩, 0, 0, 0, 0, 0, 0, 0, 0, IntKind.wrap .i64 (val8 (List.take 1 t))⟩ := by kernel_rfl
  rw [e1, e2]
  have hl2 : (x :: t).length = t.length + 1 := rfl
  rw [byte_at (x :: t) 1 (by omega)]
  try simp only [List.drop_drop]
  rfl
theorem vb21 (v0 : Int) (h0 : 0 ≤ v0 ∧ v0 < 256) : valK (setK 21 [v0]) = [v0] ∧ (setK 21 [v0]).has := by
  refine ⟨?_, ?_⟩
  · show [IntKind.wrap .u64 (IntKind.wrap .i64 (v0))] = [v0]
    rw [wi64 v0 (by omega) (by omega), wu64 v0 (by omega) (by omega)]
  · exact ⟨lit_has 21 (by decide) (by decide), ⟨zero_has _, zero_has _, zero_has _, zero_has _, zero_has _⟩, zero_has _, zero_has _, zero_has _, zero_has _, zero_has _, zero_has _, zero_has _, zero_has _, has_64 _⟩
theorem taken_eq (K x : Int) (t : List Int) (hk : known K = true) (hb : Bytes (x :: t)) (hl : (t.length : Int) = (szK K).sum) : r26taken (ctl K) (x :: t) = setK K (takeV K t) := by
  rcases known_cases hk with rfl | rfl | rfl | rfl | rfl | rfl | rfl | rfl | rfl | rfl | rfl | rfl | rfl | rfl | rfl | rfl | rfl
  · exact tk0 x t hb hl
  · exact tk1 x t hb hl
  · exact tk2 x t hb hl
  · exact tk3 x t hb hl
  · exact tk4 x t hb hl
  · exact tk5 x t hb hl
  · exact tk6 x t hb hl
  · exact tk7 x t hb hl
  · exact tk8 x t hb hl
  · exact tk9 x t hb hl
  · exact tk12 x t hb hl
  · exact tk13 x t hb hl
  · exact tk15 x t hb hl
  · exact tk18 x t hb hl
  · exact tk19 x t hb hl
  · exact tk20 x t hb hl
  · exact tk21 x t hb hl
theorem back_val (K : Int) (l : List Int) (hk : known K = true) (hl : l.length = (szK K).length) (hg : ∀ k, 0 ≤ l.getD k 0 ∧ l.getD k 0 < 256 ^ ((szK K).getD k 0).toNat) : valK (setK K l) = l ∧ (setK K l).has := by
  rcases known_cases hk with rfl | rfl | rfl | rfl | rfl | rfl | rfl | rfl | rfl | rfl | rfl | rfl | rfl | rfl | rfl | rfl | rfl
  · have g := hg
    match l, hl with
    | [v0, v1, v2, v3, v4, v5], _ =>
    have g0 : 0 ≤ v0 ∧ v0 < 256 := by
      have := hg 0
      rw [show ((szK 0).getD 0 0).toNat = 1 from rfl] at this
      simpa using this
    have g1 : 0 ≤ v1 ∧ v1 < 65536 := by
      have := hg 1
      rw [show ((szK 0).getD 1 0).toNat = 2 from rfl] at this
      simpa using this
    have g2 : 0 ≤ v2 ∧ v2 < 65536 := by
      have := hg 2
      rw [show ((szK 0).getD 2 0).toNat = 2 from rfl] at this
      simpa using this
    have g3 : 0 ≤ v3 ∧ v3 < 65536 := by
      have := hg 3
      rw [show ((szK 0).getD 3 0).toNat = 2 from rfl] at this
      simpa using this
    have g4 : 0 ≤ v4 ∧ v4 < 65536 := by
      have := hg 4
      rw [show ((szK 0).getD 4 0).toNat = 2 from rfl] at this
      simpa using this
    have g5 : 0 ≤ v5 ∧ v5 < 65536 := by
      have := hg 5
      rw [show ((szK 0).getD 5 0).toNat = 2 from rfl] at this
      simpa using this
    exact vb0 v0 v1 v2 v3 v4 v5 g0 g1 g2 g3 g4 g5
  · have g := hg
    match l, hl with
    | [v0, v1], _ =>
    have g0 : 0 ≤ v0 ∧ v0 < 1099511627776 := by
      have := hg 0
      rw [show ((szK 1).getD 0 0).toNat = 5 from rfl] at this
      simpa using this
    have g1 : 0 ≤ v1 ∧ v1 < 65536 := by
      have := hg 1
      rw [show ((szK 1).getD 1 0).toNat = 2 from rfl] at this
      simpa using this
    exact vb1 v0 v1 g0 g1
  · have g := hg
    match l, hl with
    | [v0], _ =>
    have g0 : 0 ≤ v0 ∧ v0 < 256 := by
      have := hg 0
      rw [show ((szK 2).getD 0 0).toNat = 1 from rfl] at this
      simpa using this
    exact vb2 v0 g0
  · have g := hg
    match l, hl with
    | [v0, v1], _ =>
    have g0 : 0 ≤ v0 ∧ v0 < 18446744073709551616 := by
      have := hg 0
      rw [show ((szK 3).getD 0 0).toNat = 8 from rfl] at this
      simpa using this
    have g1 : 0 ≤ v1 ∧ v1 < 18446744073709551616 := by
      have := hg 1
      rw [show ((szK 3).getD 1 0).toNat = 8 from rfl] at this
      simpa using this
    exact vb3 v0 v1 g0 g1
  · have g := hg
    match l, hl with
    | [v0], _ =>
    have g0 : 0 ≤ v0 ∧ v0 < 18446744073709551616 := by
      have := hg 0
      rw [show ((szK 4).getD 0 0).toNat = 8 from rfl] at this
      simpa using this
    exact vb4 v0 g0
  · have g := hg
    match l, hl with
    | [], _ =>
    exact vb5 
  · have g := hg
    match l, hl with
    | [], _ =>
    exact vb6 
  · have g := hg
    match l, hl with
    | [v0], _ =>
    have g0 : 0 ≤ v0 ∧ v0 < 256 := by
      have := hg 0
      rw [show ((szK 7).getD 0 0).toNat = 1 from rfl] at this
      simpa using this
    exact vb7 v0 g0
  · have g := hg
    match l, hl with
    | [v0], _ =>
    have g0 : 0 ≤ v0 ∧ v0 < 18446744073709551616 := by
      have := hg 0
      rw [show ((szK 8).getD 0 0).toNat = 8 from rfl] at this
      simpa using this
    exact vb8 v0 g0
  · have g := hg
    match l, hl with
    | [v0], _ =>
    have g0 : 0 ≤ v0 ∧ v0 < 18446744073709551616 := by
      have := hg 0
      rw [show ((szK 9).getD 0 0).toNat = 8 from rfl] at this
      simpa using this
    exact vb9 v0 g0
  · have g := hg
    match l, hl with
    | [v0], _ =>
    have g0 : 0 ≤ v0 ∧ v0 < 256 := by
      have := hg 0
      rw [show ((szK 12).getD 0 0).toNat = 1 from rfl] at this
      simpa using this
    exact vb12 v0 g0
  · have g := hg
    match l, hl with
    | [v0, v1], _ =>
    have g0 : 0 ≤ v0 ∧ v0 < 256 := by
      have := hg 0
      rw [show ((szK 13).getD 0 0).toNat = 1 from rfl] at this
      simpa using this
    have g1 : 0 ≤ v1 ∧ v1 < 256 := by
      have := hg 1
      rw [show ((szK 13).getD 1 0).toNat = 1 from rfl] at this
      simpa using this
    exact vb13 v0 v1 g0 g1
  · have g := hg
    match l, hl with
    | [v0, v1, v2, v3, v4], _ =>
    have g0 : 0 ≤ v0 ∧ v0 < 256 := by
      have := hg 0
      rw [show ((szK 15).getD 0 0).toNat = 1 from rfl] at this
      simpa using this
    have g1 : 0 ≤ v1 ∧ v1 < 65536 := by
      have := hg 1
      rw [show ((szK 15).getD 1 0).toNat = 2 from rfl] at this
      simpa using this
    have g2 : 0 ≤ v2 ∧ v2 < 65536 := by
      have := hg 2
      rw [show ((szK 15).getD 2 0).toNat = 2 from rfl] at this
      simpa using this
    have g3 : 0 ≤ v3 ∧ v3 < 65536 := by
      have := hg 3
      rw [show ((szK 15).getD 3 0).toNat = 2 from rfl] at this
      simpa using this
    have g4 : 0 ≤ v4 ∧ v4 < 65536 := by
      have := hg 4
      rw [show ((szK 15).getD 4 0).toNat = 2 from rfl] at this
      simpa using this
    exact vb15 v0 v1 v2 v3 v4 g0 g1 g2 g3 g4
  · have g := hg
    match l, hl with
    | [], _ =>
    exact vb18 
  · have g := hg
    match l, hl with
    | [], _ =>
    exact vb19 
  · have g := hg
    match l, hl with
    | [v0], _ =>
    have g0 : 0 ≤ v0 ∧ v0 < 256 := by
      have := hg 0
      rw [show ((szK 20).getD 0 0).toNat = 1 from rfl] at this
      simpa using this
    exact vb20 v0 g0
  · have g := hg
    match l, hl with
    | [v0], _ =>
    have g0 : 0 ≤ v0 ∧ v0 < 256 := by
      have := hg 0
      rw [show ((szK 21).getD 0 0).toNat = 1 from rfl] at this
      simpa using this
    exact vb21 v0 g0
theorem setK_kind (K : Int) (l : List Int) (hk : known K = true) : (setK K l).Kind = K := by
  rcases known_cases hk with rfl | rfl | rfl | rfl | rfl | rfl | rfl | rfl | rfl | rfl | rfl | rfl | rfl | rfl | rfl | rfl | rfl <;> rfl
theorem decS_has (K : Int) (t : List Int) (hk : known K = true) (hb : Bytes t) (hs : (szK K).sum ≤ t.length) : (setK K (takeV K t)).has ∧ valK (setK K (takeV K t)) = takeV K t := by
  obtain ⟨r, e1, e2, e3, e4, e5⟩ := rest_len K t hk hb hs
  exact (back_val K _ hk e4 e5).symm
theorem known_fields (k : Int) : (r26Fields k).Known = known k := by
  cases h : known k
  · obtain ⟨e0, e1, e2, e3, e4, e5, e6, e7, e8, e9, e12, e13, e15, e18, e19, e20, e21⟩ := known_not h
    unfold r26Fields
    simp only [e0, e1, e2, e3, e4, e5, e6, e7, e8, e9, e12, e13, e15, e18, e19, e20, e21, cond_false]
  · rcases known_cases h with rfl | rfl | rfl | rfl | rfl | rfl | rfl | rfl | rfl | rfl | rfl | rfl | rfl | rfl | rfl | rfl | rfl <;> rfl
theorem r26Decode_eq (x : Int) (t : List Int) (hb : Bytes (x :: t)) : r26Decode (x :: t) = cond (known x) (decS x t) (Control.zero, 12) := by
  have hx := hb x (by simp)
  have ht : Bytes t := fun y hy => hb y (by simp [hy])
  have hw : IntKind.wrap IntKind.i64 (List.getD (x :: t) (Int.toNat (0 : Int)) (0 : Int)) = x := wi64 x (by omega) (by omega)
  have hl : ((x :: t).length : Int) = t.length + 1 := by simp
  unfold r26Decode
  rw [hw, known_fields, show (((x :: t).length : Int) == 0) = false by simp; omega, cond_false]
  cases hk : known x
  · rfl
  · obtain ⟨_, _, _, _, _, h6⟩ := szK_ok x hk
    rw [Bool.not_true, cond_false, cond_true, h6, hl]
    unfold decS
    by_cases hs : (t.length : Int) < (szK x).sum
    · rw [decide_eq_true hs, decide_eq_true (by omega)]; rfl
    · by_cases h2 : (szK x).sum < t.length
      · rw [decide_eq_false hs, decide_eq_true h2, decide_eq_false (by omega), decide_eq_true (by omega)]; rfl
      · rw [decide_eq_false hs, decide_eq_false h2, decide_eq_false (by omega), decide_eq_false (by omega), cond_false, cond_false, cond_false, cond_false]
        have e := taken_eq x x t hk hb (by omega)
        have hh := (decS_has x t hk ht (by omega)).1
        have e' : r26taken { Kind := x, Update := { WinSize := 0, WinOffset := 0, Interval := 0, Latency := 0, Timeout := 0 }, Map := 0, Instant := 0, Reason := 0, Rejected := 0, Salt := 0, Mark := 0, Features := 0, Version := 0, Length := 0 } (x :: t) = setK x (takeV x t) := e
        simp only [e', ← check_eq _ hh]
theorem r26Decode_nil : r26Decode [] = (Control.zero, 3) := by
  unfold r26Decode; rfl
theorem decode_eq (b : List Int) (hb : Bytes b) : cDecode b = r26Decode b := by
  cases b with
  | nil => rw [cDecode_nil, r26Decode_nil]
  | cons x t => rw [cDecode_eq x t hb, r26Decode_eq x t hb]
theorem has_bytes {b : List Int} (h : ∀ y ∈ b, IntKind.has .u8 y) : Bytes b := fun y hy => by
  have := h y hy
  simp [IntKind.has, IntKind.min, IntKind.max, IntKind.bits, IntKind.signed] at this
  omega
theorem ctrlpduDecodes_true (b : List Int) (b0 : (∀ y ∈ b, IntKind.has .u8 y) ∧ b.length * 1 ≤ 140737488351232) : ctrlpduDecodes b = true := by
  unfold ctrlpduDecodes
  rw [ex26_true]
  cases decide ((1000 : Int) < (b.length : Int))
  · rw [cond_false, decode_eq b (has_bytes b0.1)]
    simp
  · rfl
theorem zip_val (a b : List Int) (h : b.length = a.length) : (zipF a b).map (·.Value) = b ∧ (zipF a b).map (·.Size) = a := by
  unfold zipF
  induction a generalizing b with
  | nil => cases b with
    | nil => exact ⟨rfl, rfl⟩
    | cons y b => simp at h
  | cons x a ih => cases b with
    | nil => simp at h
    | cons y b =>
      obtain ⟨h1, h2⟩ := ih b (by simpa using h)
      simp only [List.zipWith_cons_cons, List.map_cons]
      exact ⟨by rw [h1], by rw [h2]⟩
theorem flat_kind (c : Control) (h : known c.Kind = true) : flat (fldK c) = c.Kind :: flat (zipF (szK c.Kind) (valK c)) := by
  obtain ⟨_, _, _, _, k0, k1, _⟩ := fldK_len c h
  unfold fldK flat
  rw [List.flatMap_cons, wu64 c.Kind (by omega) (by omega)]
  show (c.Kind % 256 :: num8 0 _) ++ _ = _
  rw [Int.emod_eq_of_lt k0 k1]
  rfl
theorem flat_bytes (fs : List Field) : Bytes (flat fs) := by
  intro x hx
  obtain ⟨f, _, hf⟩ := List.mem_flatMap.1 hx
  exact num8_bytes _ _ x hf
theorem back26 (c : Control) (hc : c.has) (hz : cCheck c = 0) : cEncode c = (c.Kind :: flat (zipF (szK c.Kind) (valK c)), 0) ∧ cDecode (c.Kind :: flat (zipF (szK c.Kind) (valK c))) = (c, 0) ∧ ((flat (zipF (szK c.Kind) (valK c))).length : Int) ≤ 16 ∧ 0 ≤ c.Kind ∧ c.Kind < 256 := by
  obtain ⟨hk, hs, _⟩ := cCheck_ok hz
  obtain ⟨l1, l2, l3, l4, k0, k1, _⟩ := fldK_len c hk
  obtain ⟨o1, o2⟩ := fldK_ok c hc hz
  have e := flat_kind c hk
  have o3 : (zipF (szK c.Kind) (valK c)).all okField = true := by
    unfold fldK at o1
    rw [List.all_cons, Bool.and_eq_true] at o1
    exact o1.2
  have o4 : hasF (zipF (szK c.Kind) (valK c)) := fun f hf => o2 f (by unfold fldK; exact List.mem_cons_of_mem _ hf)
  obtain ⟨z1, z2⟩ := zip_val (szK c.Kind) (valK c) l1
  have hlen := put_len _ o3
  rw [z2] at hlen
  have hlen : ((flat (zipF (szK c.Kind) (valK c))).length : Int) = (szK c.Kind).sum := hlen
  have ht : Bytes (c.Kind :: flat (zipF (szK c.Kind) (valK c))) := by rw [← e]; exact flat_bytes _
  have htp := take_put _ [] [] o3 o4
  rw [z1, z2, List.nil_append, List.append_nil] at htp
  have hv : takeV c.Kind (flat (zipF (szK c.Kind) (valK c))) = valK c := by
    unfold takeV
    show (takeL (List.flatMap _ _) _ _).1 = _
    rw [htp]
  refine ⟨by rw [cEncode_ok c hc hz, e], ?_, by omega, k0, k1⟩
  rw [cDecode_eq _ _ ht, hk, cond_true]
  unfold decS
  rw [decide_eq_false (by omega), decide_eq_false (by omega), cond_false, cond_false, hv, hs, hz]
  rfl
theorem ctrlpduBack_pre (c : Control) (b0 : c.has) : (cEncode c).1.length ≤ 1000 := by
  by_cases hz : cCheck c = 0
  · obtain ⟨e, _, h, _⟩ := back26 c b0 hz
    rw [e]; simp only [List.length_cons]; omega
  · rw [cEncode_err c hz]; simp
theorem ctrlpduBack_true (c : Control) (b0 : c.has) : ctrlpduBack c = true := by
  unfold ctrlpduBack
  rw [ex26_true]
  by_cases hz : cCheck c = 0
  · obtain ⟨e, d, h, k0, k1⟩ := back26 c b0 hz
    rw [hz, show ((0 : Int) != 0) = false from rfl, cond_false, e]
    dsimp only
    rw [d]
    dsimp only
    have hl : ((c.Kind :: flat (zipF (szK c.Kind) (valK c))).length : Int) = (flat (zipF (szK c.Kind) (valK c))).length + 1 := by simp
    have hg : IntKind.wrap IntKind.i64 (List.getD (c.Kind :: flat (zipF (szK c.Kind) (valK c))) (Int.toNat (0 : Int)) (0 : Int)) = c.Kind := wi64 c.Kind (by omega) (by omega)
    rw [hg, hl, decide_eq_true (by omega), decide_eq_true (by omega)]
    simp
  · rw [show (cCheck c != (0 : Int)) = true by simp [hz]]; rfl
theorem unique26 (b : List Int) (hb : Bytes b) : ((cDecode b).2 ≠ 0 ∧ (cDecode b).1 = Control.zero) ∨ ((cDecode b).2 = 0 ∧ cEncode (cDecode b).1 = (b, 0)) := by
  cases b with
  | nil => rw [cDecode_nil]; exact .inl ⟨by decide, rfl⟩
  | cons x t =>
    have ht : Bytes t := fun y hy => hb y (by simp [hy])
    rw [cDecode_eq x t hb]
    cases hk : known x
    · exact .inl ⟨show (12 : Int) ≠ 0 by decide, rfl⟩
    rw [cond_true]
    unfold decS
    by_cases h1 : (t.length : Int) < (szK x).sum
    · rw [decide_eq_true h1]; exact .inl ⟨show (3 : Int) ≠ 0 by decide, rfl⟩
    by_cases h2 : (szK x).sum < t.length
    · rw [decide_eq_false h1, decide_eq_true h2]; exact .inl ⟨show (2 : Int) ≠ 0 by decide, rfl⟩
    rw [decide_eq_false h1, decide_eq_false h2, cond_false, cond_false]
    by_cases hz : cCheck (setK x (takeV x t)) = 0
    · refine .inr ?_
      rw [hz, show ((0 : Int) != 0) = false from rfl, cond_false]
      refine ⟨rfl, ?_⟩
      obtain ⟨hh, hv⟩ := decS_has x t hk ht (by omega)
      obtain ⟨r, e1, e2, e3, e4, e5⟩ := rest_len x t hk ht (by omega)
      obtain ⟨e, _⟩ := back26 _ hh hz
      dsimp only
      rw [e, setK_kind x _ hk, hv]
      have hr : r = [] := List.eq_nil_of_length_eq_zero (by omega)
      rw [hr, List.append_nil] at e2
      rw [e2]
    · refine .inl ?_
      rw [show (cCheck (setK x (takeV x t)) != (0 : Int)) = true by simp [hz]]
      exact ⟨hz, rfl⟩
theorem ctrlpduUnique_true (b : List Int) (b0 : (∀ y ∈ b, IntKind.has .u8 y) ∧ b.length * 1 ≤ 140737488351232) : ctrlpduUnique b = true := by
  unfold ctrlpduUnique
  rw [ex26_true]
  cases decide ((1000 : Int) < (b.length : Int))
  · rw [cond_false]
    rcases unique26 b (has_bytes b0.1) with ⟨h1, h2⟩ | ⟨h1, h2⟩
    · rw [show ((cDecode b).2 != (0 : Int)) = true by simp [h1], cond_true, h2]; rfl
    · rw [h1, h2]
      dsimp only
      rw [r23Same_refl]; rfl
  · rfl
end Go.Aw.W
