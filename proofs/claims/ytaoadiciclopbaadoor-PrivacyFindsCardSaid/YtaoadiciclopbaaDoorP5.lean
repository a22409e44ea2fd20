/- The law of chapter 9 about the search for the current address. -/
import Derived.Test.YtaoadiciclopbaaDoorP4
import Derived.Test.YtaoadiciclopbaaDoorW17
set_option linter.unusedVariables false
set_option maxRecDepth 4000
namespace Go.Aw.W
open Go Go.Aw Go.Proofs
attribute [local irreducible] r6Derive pDerive pHash r9Hash pResolves pCurrent
def matchP (list : List Identity) (a : Address) (j : Int) : Bool := bif (List.getD list (Int.toNat j) Identity.zero).Address.Kind == a.Kind && (List.getD list (Int.toNat j) Identity.zero).Address.Bits == a.Bits then true else pResolves (List.getD list (Int.toNat j) Identity.zero).IRK a
theorem idx_step (list : List Identity) (a : Address) (n : Nat) (i : Int) : fIdx.go list a (n + 1) i = cond (decide (i < (list.length : Int))) (cond (matchP list a i) i (fIdx.go list a n (IntKind.wrap .i64 (i + 1)))) (-1) := rfl
theorem idx_spec (list : List Identity) (a : Address) (hl : list.length ≤ 4611686018427387904) (n : Nat) : ∀ i : Int, 0 ≤ i → i ≤ list.length → (list.length - i).toNat < n →
    (fIdx.go list a n i = -1 ∧ ∀ j, i ≤ j → j < list.length → matchP list a j = false) ∨ (∃ j, i ≤ j ∧ j < list.length ∧ fIdx.go list a n i = j ∧ matchP list a j = true ∧ ∀ q, i ≤ q → q < j → matchP list a q = false) := by
  induction n with
  | zero => intro i h0 h1 h2; omega
  | succ n ih =>
    intro i h0 h1 h2
    rw [idx_step]
    by_cases hi : i < list.length
    · rw [decide_eq_true hi, cond_true]
      cases hm : matchP list a i
      · rw [cond_false, wi64 (i + 1) (by omega) (by omega)]
        rcases ih (i + 1) (by omega) (by omega) (by omega) with ⟨e, h⟩ | ⟨j, j0, j1, e, h, hq⟩
        · refine .inl ⟨e, fun j hj hj2 => ?_⟩
          by_cases hij : j = i
          · rw [hij]; exact hm
          · exact h j (by omega) hj2
        · refine .inr ⟨j, by omega, j1, e, h, fun q q0 q1 => ?_⟩
          by_cases hiq : q = i
          · rw [hiq]; exact hm
          · exact hq q (by omega) q1
      · exact .inr ⟨i, by omega, hi, rfl, hm, fun q q0 q1 => by omega⟩
    · rw [decide_eq_false hi, cond_false]
      exact .inl ⟨rfl, fun j hj hj2 => by omega⟩
theorem finds_step (list : List Identity) (i l per : Int) (n : Nat) (k : Int) : privacyFinds.go list i l per (n + 1) k = cond (decide (k < pFind list (pCurrent (List.getD list (Int.toNat i) Identity.zero) true l per))) (cond (matchP list (pCurrent (List.getD list (Int.toNat i) Identity.zero) true l per) k) false (privacyFinds.go list i l per n (IntKind.wrap .i64 (k + 1))))
    (bif lives09 then matchP list (pCurrent (List.getD list (Int.toNat i) Identity.zero) true l per) (pFind list (pCurrent (List.getD list (Int.toNat i) Identity.zero) true l per)) else false) := rfl
theorem finds_go (list : List Identity) (i l per F : Int) (hF : pFind list (pCurrent (List.getD list (Int.toNat i) Identity.zero) true l per) = F) (f0 : 0 ≤ F) (f1 : F ≤ 4611686018427387904) (hm : matchP list (pCurrent (List.getD list (Int.toNat i) Identity.zero) true l per) F = true) (hq : ∀ q, 0 ≤ q → q < F → matchP list (pCurrent (List.getD list (Int.toNat i) Identity.zero) true l per) q = false) (n : Nat) :
    ∀ k : Int, 0 ≤ k → k ≤ F → (F - k).toNat < n → privacyFinds.go list i l per n k = true := by
  induction n with
  | zero => intro k h0 h1 h2; omega
  | succ n ih =>
    intro k h0 h1 h2
    rw [finds_step, hF]
    by_cases hk : k < F
    · rw [decide_eq_true hk, cond_true, hq k h0 hk, cond_false, wi64 (k + 1) (by omega) (by omega)]
      exact ih (k + 1) (by omega) (by omega) (by omega)
    · rw [decide_eq_false hk, cond_false, hm, lives09_true]; rfl
theorem privacyFinds_true (list : List Identity) (i l per : Int) (b0 : (∀ y ∈ list, y.has) ∧ list.length * 24 ≤ 140737488351232) (b1 : IntKind.has .i64 i) (b2 : IntKind.has .i64 l) (b3 : IntKind.has .i64 per) : privacyFinds list i l per = true := by
  have hids := ids_has b0.1
  unfold privacyFinds
  rw [lives09_true]
  by_cases c1 : i < 0
  · simp [c1]
  by_cases c2 : (list.length : Int) ≤ i
  · simp [c2]
  by_cases c3 : 60 < (list.length : Int)
  · simp [c3]
  by_cases c4 : (List.getD list (Int.toNat i) Identity.zero).IRK = 0
  · rw [c4]; simp
  have g0 : (bif bif bif decide (i < (0 : Int)) then true else decide ((list.length : Int) ≤ i) then true else decide ((60 : Int) < (list.length : Int)) then true else (List.getD list (Int.toNat i) Identity.zero).IRK == (0 : Int)) = false := by
    have e : ((List.getD list (Int.toNat i) Identity.zero).IRK == (0 : Int)) = false := beq_eq_false_iff_ne.2 c4
    rw [decide_eq_false c1, decide_eq_false c2, decide_eq_false c3, e]; rfl
  rw [g0, cond_false]
  have hlt : i.toNat < list.length := by omega
  have hk : U64 (List.getD list (Int.toNat i) Identity.zero).IRK := by
    have e : list.getD i.toNat Identity.zero = list[i.toNat] := by simp [List.getD, List.getElem?_eq_getElem hlt]
    rw [e]; exact hids _ (List.getElem_mem _)
  have hn := num_ok (List.getD list (Int.toNat i) Identity.zero).IRK (pEpoch l per)
  have hok : okN (List.getD list (Int.toNat i) Identity.zero).IRK (num (List.getD list (Int.toNat i) Identity.zero).IRK (pEpoch l per)) := ⟨c4, hn⟩
  have hc := current_made (List.getD list (Int.toNat i) Identity.zero) l per hk c4
  have hchk : aCheck (pCurrent (List.getD list (Int.toNat i) Identity.zero) true l per) = 0 := by rw [hc]; exact made_check _ _ hok
  have hres : pResolves (List.getD list (Int.toNat i) Identity.zero).IRK (pCurrent (List.getD list (Int.toNat i) Identity.zero) true l per) = true := by rw [hc]; exact made_resolves _ _ hk hok
  have hmi : matchP list (pCurrent (List.getD list (Int.toNat i) Identity.zero) true l per) i = true := by
    unfold matchP; rw [hres]; cases ((List.getD list (Int.toNat i) Identity.zero).Address.Kind == (pCurrent (List.getD list (Int.toNat i) Identity.zero) true l per).Kind && (List.getD list (Int.toNat i) Identity.zero).Address.Bits == (pCurrent (List.getD list (Int.toNat i) Identity.zero) true l per).Bits) <;> rfl
  have hF : pFind list (pCurrent (List.getD list (Int.toNat i) Identity.zero) true l per) = fIdx.go list (pCurrent (List.getD list (Int.toNat i) Identity.zero) true l per) (list.length + 1) 0 := by
    unfold pFind fIdx; rw [hchk]; rfl
  rcases idx_spec list (pCurrent (List.getD list (Int.toNat i) Identity.zero) true l per) (by omega) (list.length + 1) 0 (by omega) (by omega) (by omega) with ⟨e, h⟩ | ⟨j, j0, j1, e, hm, hq⟩
  · have := h i (by omega) (by omega)
    rw [hmi] at this; cases this
  · have hF2 := hF.trans e
    have hji : j ≤ i := by
      by_cases hh : i < j
      · have := hq i (by omega) hh
        rw [hmi] at this; cases this
      · omega
    rw [hF2, decide_eq_false (by omega), decide_eq_false (by omega)]
    exact finds_go list i l per j hF2 j0 (by omega) hm (fun q q0 q1 => hq q q0 q1) (j.toNat + 1) 0 (by omega) (by omega) (by omega)
end Go.Aw.W
