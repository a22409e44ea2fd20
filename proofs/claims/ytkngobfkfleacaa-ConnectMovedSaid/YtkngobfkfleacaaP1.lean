/- The plain laws of the seat of chapter 17: what the code computes is what the document computes. -/
import Derived.Test.YtkngobfkfleacaaW11
set_option linter.unusedVariables false
namespace Go.Aw.W
open Go Go.Aw Go.Proofs
theorem minI_eq (a b : Int) : minI a b = min a b := by unfold minI; split <;> omega
theorem maxI_eq (a b : Int) : maxI a b = max a b := by unfold maxI; split <;> omega
theorem lim_b (n l h : Int) (hl : l ≤ h) : l ≤ r17limited n l h ∧ r17limited n l h ≤ h := by
  unfold r17limited; rw [minI_eq, maxI_eq]; omega
theorem climit_eq (n l h : Int) (hl : l ≤ h) : climit n l h = r17limited n l h := by
  unfold climit r17limited; rw [minI_eq, maxI_eq, minI_eq, maxI_eq]; omega
theorem klimit_eq (n l h : Int) (hl : l ≤ h) : klimit n l h = r17limited n l h := by
  unfold klimit r17limited; rw [minI_eq, maxI_eq, minI_eq, maxI_eq]; omega
theorem r11limited_eq (n l h : Int) (hl : l ≤ h) : r11limited n l h = r17limited n l h := by
  unfold r11limited r17limited; rw [minI_eq, maxI_eq]
  by_cases h1 : n < l
  · simp only [h1, decide_true, cond_true]; omega
  · by_cases h2 : h < n
    · simp only [h1, h2, decide_true, decide_false, cond_true, cond_false]; omega
    · simp only [h1, h2, decide_false, cond_false]; omega
theorem mul_b {a b A B : Int} (ha : 0 ≤ a) (hA : a ≤ A) (hb : 0 ≤ b) (hB : b ≤ B) : 0 ≤ a * b ∧ a * b ≤ A * B :=
  ⟨Int.mul_nonneg ha hb, Int.mul_le_mul hA hB hb (by omega)⟩
theorem climited_eq (u : Update) : climited u = ⟨r17limited u.WinSize 1 8, r17limited u.WinOffset 0 3200, r17limited u.Interval 6 3200, u.Latency, r17limited u.Timeout 10 3200⟩ := by
  unfold climited
  rw [climit_eq _ _ _ (by omega), climit_eq _ _ _ (by omega), climit_eq _ _ _ (by omega), climit_eq _ _ _ (by omega)]
theorem cmoment_eq (t : Int) : cmoment t = r17place t := climit_eq _ _ _ (by omega)
theorem place_b (t : Int) : 0 ≤ r17place t ∧ r17place t ≤ 4398046511104 := lim_b _ _ _ (by omega)
theorem first_eq (p : Int) (u : Update) : cFirst p u = r17First p u := by
  unfold cFirst r17First r17offset r17size
  rw [climited_eq, cmoment_eq]
  have h1 := place_b p
  have h2 := lim_b u.WinOffset 0 3200 (by omega)
  have h3 := lim_b u.WinSize 1 8 (by omega)
  dsimp only
  simp (disch := omega) only [wi64]
  congr 1 <;> omega
theorem timeout_eq (u : Update) : cTimeout u = r17Timeout u := by
  unfold cTimeout r17Timeout
  rw [climited_eq]
theorem span_eq (n lo : Int) (hlo : 0 ≤ lo) (hl : lo ≤ 65536) (u : Update) : IntKind.wrap IntKind.i64 (IntKind.wrap IntKind.i64 (climit n lo (65536 : Int) * (climited u).Interval) * (1250 : Int)) = IntKind.wrap IntKind.i64 (r17limited n lo (65536 : Int) * r17interval u) ∧
    0 ≤ IntKind.wrap IntKind.i64 (r17limited n lo (65536 : Int) * r17interval u) ∧ IntKind.wrap IntKind.i64 (r17limited n lo (65536 : Int) * r17interval u) ≤ 262144000000 := by
  rw [climited_eq, climit_eq _ _ _ hl]
  unfold r17interval
  have h1 := lim_b n lo 65536 hl
  have h2 := lim_b u.Interval 6 3200 (by omega)
  have h3 := mul_b (a := r17limited n lo 65536) (b := r17limited u.Interval 6 3200) (by omega) h1.2 (by omega) h2.2
  have e : r17limited n lo 65536 * (r17limited u.Interval 6 3200 * 1250) = r17limited n lo 65536 * r17limited u.Interval 6 3200 * 1250 := (Int.mul_assoc _ _ _).symm
  dsimp only
  rw [wi64 (r17limited u.Interval 6 3200 * 1250) (by omega) (by omega), e]
  generalize r17limited n lo 65536 * r17limited u.Interval 6 3200 = X at *
  rw [wi64 X (by omega) (by omega), wi64 (X * 1250) (by omega) (by omega)]
  exact ⟨rfl, by omega, by omega⟩
theorem anchor_eq (a : Int) (u : Update) (n : Int) : cAnchor a u n = r17Anchor a u n := by
  unfold cAnchor r17Anchor
  rw [(span_eq n 0 (by omega) (by omega) u).1, cmoment_eq]
theorem widening_eq (p s : Int) : kWidening p s = r11Widening p s := by
  unfold kWidening r11Widening
  rw [klimit_eq _ _ _ (by omega), klimit_eq _ _ _ (by omega), r11limited_eq _ _ _ (by omega), r11limited_eq _ _ _ (by omega)]
  have h1 := lim_b s 0 1099511627776 (by omega)
  have h2 := lim_b p 0 1000 (by omega)
  have h3 := mul_b (a := r17limited s 0 1099511627776) (b := r17limited p 0 1000) (by omega) h1.2 (by omega) h2.2
  generalize r17limited s 0 1099511627776 * r17limited p 0 1000 = X at *
  rw [wi64 X (by omega) (by omega)]
  rw [wi64 (X + 1000000) (by omega) (by omega), wi64 (X + 1000000 - 1) (by omega) (by omega), Int.tdiv_eq_ediv_of_nonneg (by omega), Int.tdiv_eq_ediv_of_nonneg (by omega), Int.tmod_eq_emod_of_nonneg (by omega)]
  by_cases hm : 0 < X % 1000000
  · simp only [hm, decide_true, cond_true]
    simp (disch := omega) only [wi64]
    omega
  · simp only [hm, decide_false, cond_false]
    simp (disch := omega) only [wi64]
    omega
theorem expect_eq (a n : Int) (u : Update) (p : Int) : cExpect a n u p = r17Expect a n u p := by
  unfold cExpect r17Expect
  rw [(span_eq n 1 (by omega) (by omega) u).1, cmoment_eq, widening_eq]
theorem due_eq (n : Int) (was now : Update) : r17Due n was now = (IntKind.wrap IntKind.i64 (IntKind.wrap IntKind.i64 (IntKind.wrap IntKind.i64 (climit n (1 : Int) (65536 : Int) * (climited was).Interval) * (1250 : Int)) + IntKind.wrap IntKind.i64 ((climited now).WinOffset * (1250 : Int))), IntKind.wrap IntKind.i64 ((climited now).WinSize * (1250 : Int))) := by
  unfold r17Due r17offset r17size
  rw [(span_eq n 1 (by omega) (by omega) was).1, climited_eq now]
theorem moved_eq (a n : Int) (was now : Update) (p : Int) : cMoved a n was now p = r17Moved a n was now p := by
  unfold cMoved r17Moved
  rw [due_eq, cmoment_eq, ← widening_eq]
theorem cwithin_go (all : List ConnectSpan) (hl : all.length ≤ 4611686018427387904) : ∀ (n : Nat) (i : Int), 0 ≤ i → i ≤ all.length → (all.length - i).toNat < n → cwithin.go all n i = (all.drop i.toNat).all fun x => r17within x.n x.low x.high
  | 0, i, h0, h1, h2 => by omega
  | n + 1, i, h0, h1, h2 => by
    unfold cwithin.go
    by_cases hi : i < all.length
    · have hlt : i.toNat < all.length := by omega
      simp only [hi, decide_true, cond_true]
      rw [wi64 (i + (1 : Int)) (by omega) (by omega), cwithin_go all hl n (i + 1) (by omega) (by omega) (by omega), List.drop_eq_getElem_cons hlt, List.all_cons]
      have e : all.getD i.toNat ConnectSpan.zero = all[i.toNat] := by simp [List.getD, List.getElem?_eq_getElem hlt]
      have e2 : (i + 1).toNat = i.toNat + 1 := by omega
      rw [e, e2]
      unfold r17within
      by_cases a : all[i.toNat].n < all[i.toNat].low
      · have a2 : ¬ all[i.toNat].low ≤ all[i.toNat].n := by omega
        simp [a, a2]
      · have a2 : all[i.toNat].low ≤ all[i.toNat].n := by omega
        by_cases b : all[i.toNat].high < all[i.toNat].n
        · have b2 : ¬ all[i.toNat].n ≤ all[i.toNat].high := by omega
          simp [a, a2, b, b2]
        · have b2 : all[i.toNat].n ≤ all[i.toNat].high := by omega
          simp [a, a2, b, b2]
    · simp only [hi, decide_false, cond_false]
      rw [List.drop_of_length_le (by omega)]
      rfl
theorem cwithin_eq (all : List ConnectSpan) (hl : all.length ≤ 4611686018427387904) : cwithin all = all.all fun x => r17within x.n x.low x.high := by
  unfold cwithin
  rw [cwithin_go all hl _ _ (by omega) (by omega) (by omega)]
  rfl
theorem checkUpdate_eq (u : Update) : cCheckUpdate u = r17CheckUpdate u := by
  unfold cCheckUpdate r17CheckUpdate
  rw [cwithin_eq _ (by simp)]
  simp only [List.all_cons, List.all_nil]
  generalize r17within u.WinSize 1 8 = a
  generalize r17within u.WinOffset 0 3200 = b
  generalize r17within u.Interval 6 3200 = c
  generalize r17within u.Latency 0 499 = d
  generalize r17within u.Timeout 10 3200 = e
  cases a <;> cases b <;> cases c <;> cases d <;> cases e <;> rfl
theorem check_eq (p : ConnParams) (hk : kCheck p.Map = r12Check p.Map) : cCheck p = r17Check p := by
  unfold cCheck r17Check
  rw [cwithin_eq _ (by simp), hk, checkUpdate_eq]
  simp only [List.all_cons, List.all_nil]
  generalize r17within p.Hop 5 16 = a
  generalize r17within p.PPM 0 500 = b
  cases a <;> cases b <;> rfl
end Go.Aw.W
