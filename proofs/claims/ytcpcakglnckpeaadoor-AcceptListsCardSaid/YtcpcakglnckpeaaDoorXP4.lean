/- The laws of chapter 20 on one list: each function of the laws gives true. -/
import Derived.Test.YtcpcakglnckpeaaDoorXOp
import Derived.Test.YtcpcakglnckpeaaDoorXMix
import Derived.Test.YtcpcakglnckpeaaDoorXW20
set_option linter.unusedVariables false
set_option maxRecDepth 4000
namespace Go.Aw.W
open Go Go.Aw Go.Proofs
theorem has_u64 {n : Int} (h : IntKind.has .u64 n) : U64 n := by
  have : 0 ≤ n ∧ n ≤ 18446744073709551615 := by simpa [IntKind.has, IntKind.min, IntKind.max, IntKind.bits, IntKind.signed] using h
  unfold U64; omega
theorem hasA {a : Address} (h : a.has) : HasA a := has_u64 h.2
theorem ids_has {l : List Identity} (h : ∀ y ∈ l, y.has) : ∀ x ∈ l, U64 x.IRK := fun x hx => has_u64 (h x hx).2
theorem lives20_true : lives20 = true := rfl
theorem copied_eq (l : List Address) : copied20 l = l := rfl
theorem same_eq (l : List Identity) : same20 l = l := rfl
/-- This address. -/
def isA (a x : Address) : Bool := x.Kind == a.Kind && x.Bits == a.Bits
theorem isA_comm (a x : Address) : isA a x = isA x a := by unfold isA; rw [BEq.comm (a := x.Kind), BEq.comm (a := x.Bits)]
def elem20 (l : List Address) (a : Address) : Bool := l.any (isA a)
def keep20 (l : List Address) (a : Address) : List Address := l.filter fun x => !isA a x
theorem drop_at (l : List Address) (i : Nat) (h : i < l.length) : l.drop i = l.getD i Address.zero :: l.drop (i + 1) := by
  rw [List.drop_eq_getElem_cons h]; simp [List.getD, h]
theorem element_go (l : List Address) (a : Address) (hl : l.length ≤ 4611686018427387904) : ∀ (n : Nat) (i : Int), 0 ≤ i → i ≤ l.length → (l.length - i).toNat < n → r20Element.go l a n i = (l.drop i.toNat).any (isA a)
  | 0, i, h0, h1, h2 => by omega
  | n + 1, i, h0, h1, h2 => by
    unfold r20Element.go
    by_cases hi : i < l.length
    · rw [decide_eq_true hi, cond_true, drop_at l i.toNat (by omega), List.any_cons]
      rw [wi64 (i + (1 : Int)) (by omega) (by omega), element_go l a hl n (i + 1) (by omega) (by omega) (by omega), show (i + 1).toNat = i.toNat + 1 by omega]
      rw [show isA a (List.getD l i.toNat Address.zero) = ((List.getD l (Int.toNat i) Address.zero).Kind == a.Kind && (List.getD l (Int.toNat i) Address.zero).Bits == a.Bits) from rfl]
      generalize ((List.getD l (Int.toNat i) Address.zero).Kind == a.Kind && (List.getD l (Int.toNat i) Address.zero).Bits == a.Bits) = m
      cases m <;> rfl
    · rw [decide_eq_false hi, cond_false, List.drop_eq_nil_of_le (by omega)]; rfl
theorem element_eq (l : List Address) (a : Address) (hl : l.length ≤ 4611686018427387904) : r20Element l a = elem20 l a := by
  unfold r20Element elem20
  rw [element_go l a hl _ _ (by omega) (by omega) (by omega)]; rfl
theorem has_go (l : List Address) (a : Address) (n : Nat) : ∀ (i : Int), aHas.go l a n i = r20Element.go l a n i := by
  induction n with
  | zero => intro i; rfl
  | succ n ih =>
    intro i
    unfold aHas.go r20Element.go
    rw [ih, BEq.comm (a := a.Kind), BEq.comm (a := a.Bits)]
theorem has_eq (l : List Address) (a : Address) (hl : l.length ≤ 4611686018427387904) : aHas l a = elem20 l a := by
  rw [← element_eq l a hl]; exact has_go l a _ _
theorem same_go (a : List Address) (hl : a.length ≤ 4611686018427387904) : ∀ (n : Nat) (i : Int), 0 ≤ i → i ≤ a.length → (a.length - i).toNat < n → r20Same.go a a n i = true
  | 0, i, h0, h1, h2 => by omega
  | n + 1, i, h0, h1, h2 => by
    unfold r20Same.go
    by_cases hi : i < a.length
    · rw [decide_eq_true hi, cond_true, wi64 (i + (1 : Int)) (by omega) (by omega), same_go a hl n (i + 1) (by omega) (by omega) (by omega)]
      simp
    · rw [decide_eq_false hi, cond_false]
theorem same_refl (a : List Address) (hl : a.length ≤ 4611686018427387904) : r20Same a a = true := by
  unfold r20Same
  rw [show ((a.length : Int) != (a.length : Int)) = false by simp, cond_false]
  exact same_go a hl _ _ (by omega) (by omega) (by omega)
theorem add_eq (l : List Address) (a : Address) (hl : l.length ≤ 4611686018427387904) (ha : HasA a) : accAdd l a = r20Add l a := by
  unfold accAdd r20Add
  rw [aCheck_eq a ha, has_eq l a hl, element_eq l a hl]; rfl
theorem keep_len (l : List Address) (a : Address) : (keep20 l a).length ≤ l.length := List.length_filter_le _ _
theorem keep_all (l : List Address) (a : Address) (h : elem20 l a = false) : keep20 l a = l := by
  unfold keep20
  rw [List.filter_eq_self]
  intro x hx
  unfold elem20 at h
  rw [List.any_eq_false] at h
  have := h x hx
  simpa using this
theorem keep_lt (l : List Address) (a : Address) (h : elem20 l a = true) : (keep20 l a).length < l.length := by
  unfold keep20
  unfold elem20 at h
  rw [List.any_eq_true] at h
  obtain ⟨x, hx, h⟩ := h
  have : ¬ (l.filter fun x => !isA a x).length = l.length := by
    intro e
    have := List.length_filter_eq_length_iff.mp e x hx
    simp [h] at this
  have := keep_len l a
  unfold keep20 at this
  omega
theorem remove_go (l : List Address) (a : Address) (hl : l.length ≤ 4611686018427387904) (n : Nat) : ∀ (i : Int) (out : List Address), 0 ≤ i → i ≤ l.length → (l.length - i).toNat < n →
    r20Remove.go l a n i out = (out ++ keep20 (l.drop i.toNat) a, cond (((out ++ keep20 (l.drop i.toNat) a).length : Int) == (l.length : Int)) 6 0) := by
  induction n with
  | zero => intro i out h0 h1 h2; omega
  | succ n ih =>
    intro i out h0 h1 h2
    unfold r20Remove.go
    by_cases hi : i < l.length
    · rw [decide_eq_true hi, cond_true, drop_at l i.toNat (by omega)]
      rw [wi64 (i + (1 : Int)) (by omega) (by omega), ih (i + 1) _ (by omega) (by omega) (by omega), ih (i + 1) _ (by omega) (by omega) (by omega), show (i + 1).toNat = i.toNat + 1 by omega]
      unfold keep20
      rw [List.filter_cons, show isA a (List.getD l i.toNat Address.zero) = ((List.getD l (Int.toNat i) Address.zero).Kind == a.Kind && (List.getD l (Int.toNat i) Address.zero).Bits == a.Bits) from rfl]
      generalize ((List.getD l (Int.toNat i) Address.zero).Kind == a.Kind && (List.getD l (Int.toNat i) Address.zero).Bits == a.Bits) = m
      cases m
      · simp only [Bool.not_false, cond_true, if_true, List.append_assoc, List.singleton_append]
      · simp only [Bool.not_true, cond_false, Bool.false_eq_true, if_false]
    · rw [decide_eq_false hi, cond_false, List.drop_eq_nil_of_le (by omega)]
      unfold keep20
      rw [List.filter_nil, List.append_nil]
      generalize ((out.length : Int) == (l.length : Int)) = m
      cases m <;> rfl
theorem remove_eq (l : List Address) (a : Address) (hl : l.length ≤ 4611686018427387904) : r20Remove l a = (keep20 l a, cond (elem20 l a) 0 6) := by
  unfold r20Remove
  rw [remove_go l a hl _ _ _ (by omega) (by omega) (by omega)]
  rw [show l.drop (Int.toNat 0) = l from rfl, List.nil_append]
  cases h : elem20 l a
  · rw [keep_all l a h]; simp
  · have := keep_lt l a h
    rw [show (((keep20 l a).length : Int) == (l.length : Int)) = false by simp only [beq_eq_false_iff_ne, ne_eq]; omega]; rfl
theorem didx_go (a : Address) (s : List Address) (hl : s.length ≤ 4611686018427387904) (n : Nat) : ∀ (i : Int), 0 ≤ i → i ≤ s.length → (s.length - i).toNat < n → keep20 (s.take i.toNat) a = s.take i.toNat →
    (dIdx.go a s n i = -1 ∧ keep20 s a = s) ∨ ∃ k : Nat, k < s.length ∧ dIdx.go a s n i = k ∧ keep20 (s.take k) a = s.take k ∧ isA a (s.getD k Address.zero) = true := by
  induction n with
  | zero => intro i h0 h1 h2; omega
  | succ n ih =>
    intro i h0 h1 h2 hk
    unfold dIdx.go
    by_cases hi : i < s.length
    · rw [decide_eq_true hi, cond_true]
      rw [wi64 (i + (1 : Int)) (by omega) (by omega)]
      have hs : isA a (List.getD s i.toNat Address.zero) = ((List.getD s (Int.toNat i) Address.zero).Kind == a.Kind && (List.getD s (Int.toNat i) Address.zero).Bits == a.Bits) := rfl
      generalize ((List.getD s (Int.toNat i) Address.zero).Kind == a.Kind && (List.getD s (Int.toNat i) Address.zero).Bits == a.Bits) = m at hs ⊢
      cases m
      · rw [cond_false]
        refine ih (i + 1) (by omega) (by omega) (by omega) ?_
        rw [show (i + 1).toNat = i.toNat + 1 by omega, List.take_add_one, List.getElem?_eq_getElem (by omega)]
        have hg : s[i.toNat]'(by omega) = List.getD s i.toNat Address.zero := by simp [List.getD, show i.toNat < s.length by omega]
        rw [hg]
        unfold keep20 at hk ⊢
        rw [List.filter_append, hk]
        clear hg
        generalize List.getD s i.toNat Address.zero = y at hs ⊢
        simp [hs]
      · rw [cond_true]
        exact .inr ⟨i.toNat, by omega, by omega, hk, hs⟩
    · rw [decide_eq_false hi, cond_false]
      rw [List.take_of_length_le (by omega)] at hk
      exact .inl ⟨rfl, hk⟩
theorem ddel_go (a : Address) (s : List Address) (n : Nat) : ∀ (j p : Int) (c : List Address), 0 ≤ p → p + 1 ≤ j → j ≤ c.length → (c.length - j).toNat < n → c.length ≤ 4611686018427387904 →
    dDel.go a s n j p c = c.take p.toNat ++ keep20 (c.drop j.toNat) a := by
  induction n with
  | zero => intro j p c h0 h1 h2 h3; omega
  | succ n ih =>
    intro j p c h0 h1 h2 h3 hl
    unfold dDel.go
    by_cases hi : j < c.length
    · rw [decide_eq_true hi, cond_true, drop_at c j.toNat (by omega)]
      rw [wi64 (j + (1 : Int)) (by omega) (by omega), wi64 (p + (1 : Int)) (by omega) (by omega)]
      rw [ih (j + 1) (p + 1) _ (by omega) (by omega) (by rw [List.length_set]; omega) (by rw [List.length_set]; omega) (by rw [List.length_set]; omega), ih (j + 1) p c (by omega) (by omega) (by omega) (by omega) hl]
      rw [show (j + 1).toNat = j.toNat + 1 by omega, show (p + 1).toNat = p.toNat + 1 by omega]
      have hs : isA a (List.getD c j.toNat Address.zero) = ((List.getD c (Int.toNat j) Address.zero).Kind == a.Kind && (List.getD c (Int.toNat j) Address.zero).Bits == a.Bits) := rfl
      rw [← hs]
      unfold keep20
      rw [List.filter_cons]
      cases isA a (List.getD c j.toNat Address.zero)
      · simp only [Bool.not_false, cond_true, if_true]
        rw [List.drop_set_of_lt (by omega)]
        rw [List.take_add_one, List.getElem?_set_self (by omega), List.take_set_of_le (by omega)]
        simp
      · simp only [Bool.not_true, cond_false, Bool.false_eq_true, if_false]
    · rw [decide_eq_false hi, cond_false, show List.drop j.toNat c = [] from List.drop_eq_nil_of_le (by omega)]
      have e1 : (List.take p.toNat c).length = p.toNat := by rw [List.length_take]; omega
      rw [show Int.toNat 0 = 0 from rfl, List.drop_zero, List.take_append_of_le_length (by omega), List.take_of_length_le (by omega)]
      unfold keep20
      rw [List.filter_nil, List.append_nil]
theorem ddel_eq (a : Address) (s : List Address) (hl : s.length ≤ 4611686018427387904) : dDel a s = keep20 s a := by
  unfold dDel
  have h := didx_go a s hl (s.length + 1) 0 (by omega) (by omega) (by omega) rfl
  rw [show dIdx.go a s (s.length + 1) 0 = dIdx a s from rfl] at h
  rcases h with ⟨h, hk⟩ | ⟨k, hk, h, hq, hm⟩
  · rw [h, hk]; rfl
  · rw [h, show ((k : Int) == (-1 : Int)) = false by simp only [beq_eq_false_iff_ne, ne_eq]; omega, cond_false, wi64 ((k : Int) + 1) (by omega) (by omega), ddel_go a s _ _ _ _ (by omega) (by omega) (by omega) (by omega) hl]
    rw [show ((k : Int) + 1).toNat = k + 1 by omega, show (k : Int).toNat = k by omega]
    have e1 : s = s.take k ++ s.drop k := (List.take_append_drop k s).symm
    have e2 : keep20 s a = keep20 (s.take k) a ++ keep20 (s.drop k) a := by
      conv => lhs; rw [e1]
      unfold keep20; rw [List.filter_append]
    rw [e2, hq, drop_at s k hk]
    unfold keep20
    rw [List.filter_cons, hm]; rfl
theorem accRemove_eq (l : List Address) (a : Address) (hl : l.length ≤ 4611686018427387904) : accRemove l a = r20Remove l a := by
  unfold accRemove
  rw [remove_eq l a hl, has_eq l a hl, show aClone l = l from rfl, ddel_eq a l hl]
  cases h : elem20 l a
  · rw [keep_all l a h]; rfl
  · rfl
theorem accHas_eq (l : List Address) (ids : List Identity) (a : Address) (hl : l.length ≤ 4611686018427387904) (hi : ids.length ≤ 4611686018427387904) (ha : HasA a) (hk : ∀ x ∈ ids, U64 x.IRK) : accHas l ids a = r20Has l ids a := by
  unfold accHas r20Has
  rw [find_eq ids a ha hk hi, has_eq l a hl, element_eq l a hl, has_eq l _ hl, element_eq l _ hl]
theorem accAllows_eq (p r : Int) (l : List Address) (ids : List Identity) (a : Address) (hl : l.length ≤ 4611686018427387904) (hi : ids.length ≤ 4611686018427387904) (ha : HasA a) (hk : ∀ x ∈ ids, U64 x.IRK) : accAllows p r l ids a = r20Allows p r l ids a := by
  unfold accAllows r20Allows
  rw [accHas_eq l ids a hl hi ha hk]
  by_cases c1 : p < 0
  · rw [decide_eq_true c1]; rfl
  by_cases c2 : 3 < p
  · rw [decide_eq_true c2, decide_eq_false c1]; rfl
  rw [decide_eq_false c1, decide_eq_false c2]
  have : p = 0 ∨ p = 1 ∨ p = 2 ∨ p = 3 := by omega
  rcases this with rfl | rfl | rfl | rfl <;> rfl
theorem acceptAdds_true (l : List Address) (a : Address) (b0 : (∀ y ∈ l, y.has) ∧ l.length * 16 ≤ 140737488351232) (b1 : a.has) : acceptAdds l a = true := by
  unfold acceptAdds
  rw [copied_eq, add_eq l a (by omega) (hasA b1)]
  rw [same_refl]
  · cases decide ((100 : Int) < (l.length : Int)) <;> simp
  · unfold r20Add
    generalize (r8Check a != (0 : Int)) = m1
    generalize r20Element l a = m2
    generalize decide ((64 : Int) ≤ (l.length : Int)) = m3
    cases m1 <;> cases m2 <;> cases m3 <;> simp only [cond_true, cond_false, List.length_append, List.length_cons, List.length_nil] <;> omega
theorem acceptRemoves_true (l : List Address) (a : Address) (b0 : (∀ y ∈ l, y.has) ∧ l.length * 16 ≤ 140737488351232) (b1 : a.has) : acceptRemoves l a = true := by
  unfold acceptRemoves
  rw [copied_eq, accRemove_eq l a (by omega), remove_eq l a (by omega)]
  have := keep_len l a
  rw [same_refl _ (by dsimp only; omega)]
  cases decide ((100 : Int) < (l.length : Int)) <;> simp
theorem acceptHas_true (l : List Address) (ids : List Identity) (a : Address) (b0 : (∀ y ∈ l, y.has) ∧ l.length * 16 ≤ 140737488351232) (b1 : (∀ y ∈ ids, y.has) ∧ ids.length * 24 ≤ 140737488351232) (b2 : a.has) : acceptHas l ids a = true := by
  unfold acceptHas
  rw [copied_eq, same_eq, accHas_eq l ids a (by omega) (by omega) (hasA b2) (ids_has b1.1), lives20_true]
  simp
theorem acceptAllows_true (l : List Address) (ids : List Identity) (q : Law20Ask) (b0 : (∀ y ∈ l, y.has) ∧ l.length * 16 ≤ 140737488351232) (b1 : (∀ y ∈ ids, y.has) ∧ ids.length * 24 ≤ 140737488351232) (b2 : q.has) : acceptAllows l ids q = true := by
  unfold acceptAllows
  rw [copied_eq, same_eq, accAllows_eq _ _ l ids _ (by omega) (by omega) (hasA b2.2.2) (ids_has b1.1), lives20_true]
  simp
theorem allows3 (r : Int) (l : List Address) (ids : List Identity) (a : Address) : accAllows 3 r l ids a = (bif accHas l ids a then bif r == (3 : Int) then true else r == (5 : Int) else false) := by
  unfold accAllows
  rw [show (decide ((3 : Int) < 0)) = false by decide, show (decide ((3 : Int) < 3)) = false by decide, show ((3 : Int) == 3) = true by decide]
  generalize accHas l ids a = h
  generalize (r == (3 : Int)) = m
  generalize (r == (5 : Int)) = m2
  cases h <;> cases m <;> cases m2 <;> rfl
theorem allows_mono (p r : Int) (l : List Address) (ids : List Identity) (a : Address) (h0 : 0 ≤ p) (h1 : p ≤ 3) :
    (bif bif accAllows (3 : Int) r l ids a then !accAllows p r l ids a else false then true else bif accAllows p r l ids a then !bif r == (3 : Int) then true else r == (5 : Int) else false) = false := by
  rw [allows3]
  unfold accAllows
  rw [decide_eq_false (by omega), decide_eq_false (by omega)]
  generalize accHas l ids a = h
  generalize (r == (3 : Int)) = m
  generalize (r == (5 : Int)) = m2
  generalize (p == (3 : Int)) = m3
  generalize (p == (1 : Int)) = m4
  generalize (p == (2 : Int)) = m5
  cases h <;> cases m <;> cases m2 <;> cases m3 <;> cases m4 <;> cases m5 <;> rfl
theorem policies_go (l : List Address) (ids : List Identity) (q : Law20Ask) (n : Nat) : ∀ (p : Int), 0 ≤ p → p ≤ 4 → (4 - p).toNat < n → acceptPolicies.go l ids q n p = true := by
  induction n with
  | zero => intro p h0 h1 h2; omega
  | succ n ih =>
    intro p h0 h1 h2
    unfold acceptPolicies.go
    by_cases hp : p ≤ 3
    · rw [decide_eq_true hp, cond_true, copied_eq, same_eq, allows_mono p _ l ids _ h0 hp, cond_false, wi64 (p + 1) (by omega) (by omega)]
      exact ih (p + 1) (by omega) (by omega) (by omega)
    · rw [decide_eq_false hp, cond_false]
theorem acceptPolicies_true (l : List Address) (ids : List Identity) (q : Law20Ask) (b0 : (∀ y ∈ l, y.has) ∧ l.length * 16 ≤ 140737488351232) (b1 : (∀ y ∈ ids, y.has) ∧ ids.length * 24 ≤ 140737488351232) (b2 : q.has) : acceptPolicies l ids q = true := by
  unfold acceptPolicies
  rw [copied_eq, same_eq, allows3, policies_go l ids q 5 0 (by omega) (by omega) (by omega), show ∀ b : Bool, (b == b) = true from by decide]
  simp
end Go.Aw.W
