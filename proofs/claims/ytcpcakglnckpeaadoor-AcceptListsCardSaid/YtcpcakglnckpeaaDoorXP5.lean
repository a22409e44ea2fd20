/- The law of chapter 20 on a list that grows and shrinks: its function gives true. -/
import Derived.Test.YtcpcakglnckpeaaDoorXP4
import Derived.Test.YtcpcakglnckpeaaDoorXW21
set_option linter.unusedVariables false
set_option maxRecDepth 4000
namespace Go.Aw.W
open Go Go.Aw Go.Proofs
theorem without_go (l : List Address) (a : Address) (hl : l.length ≤ 4611686018427387904) (n : Nat) : ∀ (i : Int) (out : List Address), 0 ≤ i → i ≤ l.length → (l.length - i).toNat < n → without.go l a n i out = out ++ keep20 (l.drop i.toNat) a := by
  induction n with
  | zero => intro i out h0 h1 h2; omega
  | succ n ih =>
    intro i out h0 h1 h2
    unfold without.go
    by_cases hi : i < l.length
    · rw [decide_eq_true hi, cond_true, drop_at l i.toNat (by omega)]
      rw [wi64 (i + (1 : Int)) (by omega) (by omega), ih (i + 1) _ (by omega) (by omega) (by omega), ih (i + 1) _ (by omega) (by omega) (by omega), show (i + 1).toNat = i.toNat + 1 by omega]
      unfold keep20
      rw [List.filter_cons, show isA a (List.getD l i.toNat Address.zero) = ((List.getD l (Int.toNat i) Address.zero).Kind == a.Kind && (List.getD l (Int.toNat i) Address.zero).Bits == a.Bits) from rfl]
      generalize ((List.getD l (Int.toNat i) Address.zero).Kind == a.Kind && (List.getD l (Int.toNat i) Address.zero).Bits == a.Bits) = m
      cases m
      · simp only [Bool.not_false, cond_true, if_true, List.append_assoc, List.singleton_append]
      · simp only [Bool.not_true, cond_false, Bool.false_eq_true, if_false]
    · rw [decide_eq_false hi, cond_false, List.drop_eq_nil_of_le (by omega)]
      unfold keep20
      rw [List.filter_nil, List.append_nil]
theorem without_eq (l : List Address) (a : Address) (hl : l.length ≤ 4611686018427387904) : without l a = keep20 l a := by
  unfold without
  rw [without_go l a hl _ _ _ (by omega) (by omega) (by omega)]; rfl
theorem isA_self (a : Address) : isA a a = true := by unfold isA; simp
theorem elem_snoc (l : List Address) (a : Address) : elem20 (l ++ [a]) a = true := by
  unfold elem20; rw [List.any_append]; simp [isA_self]
theorem elem_keep (l : List Address) (a : Address) : elem20 (keep20 l a) a = false := by
  unfold elem20 keep20
  rw [List.any_eq_false]
  intro x hx
  have := (List.mem_filter.1 hx).2
  simpa using this
/-- What is added, or the error. -/
theorem add_cases (l : List Address) (a : Address) (hl : l.length ≤ 4611686018427387904) : (accAdd l a = (l ++ [a], 0) ∧ elem20 l a = false ∧ l.length < 64) ∨ ∃ e, accAdd l a = (l, e) ∧ e ≠ 0 := by
  unfold accAdd
  rw [has_eq l a hl, show aClone l = l from rfl]
  by_cases c1 : aCheck a = 0
  · rw [show (aCheck a != (0 : Int)) = false by simp [c1], cond_false]
    cases c2 : elem20 l a
    · rw [cond_false]
      by_cases c3 : (64 : Int) ≤ l.length
      · rw [decide_eq_true c3]; exact .inr ⟨8, rfl, by decide⟩
      · rw [decide_eq_false c3]; exact .inl ⟨rfl, rfl, by omega⟩
    · exact .inr ⟨7, rfl, by decide⟩
  · rw [show (aCheck a != (0 : Int)) = true by simp [c1], cond_true]
    exact .inr ⟨_, rfl, c1⟩
theorem has_nil (l : List Address) (a : Address) (hl : l.length ≤ 4611686018427387904) (ha : HasA a) : accHas l [] a = elem20 l a := by
  unfold accHas
  rw [has_eq l a hl]
  have := pFind_lt [] a
  rw [List.length_nil] at this
  rw [decide_eq_false (show ¬ (0 : Int) ≤ pFind [] a by omega)]
  cases elem20 l a <;> rfl
theorem lists_go (steps : List Law20Step) (hs : ∀ y ∈ steps, HasA y.Address) (hl : steps.length ≤ 1000) (n : Nat) : ∀ (i : Int) (l : List Address), 0 ≤ i → i ≤ steps.length → (steps.length - i).toNat < n → l.length ≤ 64 → acceptLists.go steps n i l = true := by
  induction n with
  | zero => intro i l h0 h1 h2; omega
  | succ n ih =>
    intro i l h0 h1 h2 h3
    unfold acceptLists.go
    by_cases hi : i < steps.length
    · rw [decide_eq_true hi, cond_true, wi64 (i + (1 : Int)) (by omega) (by omega)]
      have hy : HasA (steps.getD i.toNat Law20Step.zero).Address := by
        refine hs _ ?_
        simp [List.getD, show i.toNat < steps.length by omega]
      have ih' := fun l h => ih (i + 1) l (by omega) (by omega) (by omega) h
      clear ih
      generalize List.getD steps (Int.toNat i) Law20Step.zero = y at hy ⊢
      obtain ⟨add, a⟩ := y
      rw [copied_eq]
      dsimp only at hy ⊢
      cases add
      · rw [cond_false, accRemove_eq l a (by omega), remove_eq l a (by omega), without_eq l a (by omega), element_eq l a (by omega)]
        have hk := keep_len l a
        cases he : elem20 l a
        · have e1 := same_refl l (by omega)
          rw [keep_all l a he]
          simp [e1, ih' l h3, show ¬ (64 : Int) < l.length by omega]
        · have e1 := same_refl (keep20 l a) (by omega)
          have e2 := has_nil (keep20 l a) a (by omega) hy
          rw [elem_keep] at e2
          simp [e1, e2, ih' (keep20 l a) (by omega), show ¬ (64 : Int) < (keep20 l a).length by omega]
      · rw [cond_true, element_eq l a (by omega)]
        rcases add_cases l a (by omega) with ⟨h, he, h4⟩ | ⟨e, h, he⟩
        · have e1 := same_refl (l ++ [a]) (by simp; omega)
          have e2 := has_nil (l ++ [a]) a (by simp; omega) hy
          rw [elem_snoc] at e2
          rw [h, he]
          have := ih' (l ++ [a]) (by simp; omega)
          simp [e1, e2, this, show ¬ (64 : Int) < l.length + 1 by omega]
        · have e1 := same_refl l (by omega)
          rw [h]
          simp [e1, he, ih' l h3, show ¬ (64 : Int) < l.length by omega]
    · rw [decide_eq_false hi, cond_false]
theorem acceptLists_true (steps : List Law20Step) (b0 : (∀ y ∈ steps, y.has) ∧ steps.length * 24 ≤ 140737488351232) : acceptLists steps = true := by
  unfold acceptLists
  by_cases h : (100 : Int) < steps.length
  · rw [decide_eq_true h]; rfl
  · rw [decide_eq_false h, cond_false]
    exact lists_go steps (fun y hy => hasA (b0.1 y hy).2) (by omega) _ _ _ (by omega) (by omega) (by omega) (by simp)
end Go.Aw.W
