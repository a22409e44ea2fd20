/- Contracts of the seat (printed by ct.py). -/
import Derived.Test.YtcpcakglnckpeaaDoorXW20
set_option linter.unusedVariables false
set_option linter.unusedSimpArgs false
set_option maxRecDepth 20000
set_option maxHeartbeats 1000000
namespace Go.Aw.W
open Go Go.Aw Go.Proofs
attribute [local irreducible] evCode evFun evOps evDs evOne ctxK loopK loopB subC bodyC headS okH roundK

theorem without_len (l : List Address) (a : Address) (n : Nat) : ∀ (i : Int) (out : List Address), 0 ≤ i → i ≤ 4611686018427387904 → l.length ≤ 4611686018427387904 → (without.go l a n i out).length ≤ out.length + (l.length - i).toNat := by
  induction n with
  | zero => intro i out h0 h1 h2; simp [without.go]
  | succ n ih =>
    intro i out h0 h1 h2
    unfold without.go
    by_cases hi : i < l.length
    · rw [decide_eq_true hi, cond_true]
      rw [wi64 (i + (1 : Int)) (by omega) (by omega)]
      have h3 := ih (i + 1) out (by omega) (by omega) h2
      have h4 := ih (i + 1) (out ++ [List.getD l (Int.toNat i) Address.zero]) (by omega) (by omega) h2
      simp only [List.length_append, List.length_singleton] at h4
      generalize (!((List.getD l (Int.toNat i) Address.zero).Kind == a.Kind && (List.getD l (Int.toNat i) Address.zero).Bits == a.Bits)) = m
      cases m
      · rw [cond_false]; omega
      · rw [cond_true]; omega
    · rw [decide_eq_false hi, cond_false]; omega
theorem without_le (l : List Address) (a : Address) (h : l.length ≤ 4611686018427387904) : (without l a).length ≤ l.length := by
  unfold without
  have := without_len l a (l.length + 1) 0 [] (by omega) (by omega) h
  simp only [List.length_nil] at this
  omega

/-! wireless/wirelesslaw20.AcceptLists -/
def acceptLists.res (r : Bool) : AV El := .v (.bool (r))
def acceptLists.news (r : Bool) : List (AObj El) := []
def acceptLists.go (steps : List Law20Step) : Nat → Int → (List Address) → Bool
  | 0, _, _ => false
  | n0 + 1, i, l => cond (decide (i < (↑(List.length steps) : Int))) (cond ((List.getD steps (Int.toNat i) Law20Step.zero).Add) (cond ((accAdd (copied20 l) (List.getD steps (Int.toNat i) Law20Step.zero).Address).snd == (0 : Int)) (cond (bif
    bif
        bif
            !r20Same (accAdd (copied20 l) (List.getD steps (Int.toNat i) Law20Step.zero).Address).fst
                (l ++ [(List.getD steps (Int.toNat i) Law20Step.zero).Address]) then
          true
        else
          decide
            ((64 : Int) < (↑(List.length (l ++ [(List.getD steps (Int.toNat i) Law20Step.zero).Address])) : Int)) then
      true
    else
      bif (accAdd (copied20 l) (List.getD steps (Int.toNat i) Law20Step.zero).Address).snd == (0 : Int) then
        !accHas (accAdd (copied20 l) (List.getD steps (Int.toNat i) Law20Step.zero).Address).fst []
              (List.getD steps (Int.toNat i) Law20Step.zero).Address ==
            (List.getD steps (Int.toNat i) Law20Step.zero).Add
      else false then
  true
else
  bif (accAdd (copied20 l) (List.getD steps (Int.toNat i) Law20Step.zero).Address).snd == (0 : Int) then
    r20Element (copied20 l) (List.getD steps (Int.toNat i) Law20Step.zero).Address ==
      (List.getD steps (Int.toNat i) Law20Step.zero).Add
  else false) (false) (acceptLists.go steps n0 (IntKind.wrap IntKind.i64 (i + (1 : Int))) (l ++ [(List.getD steps (Int.toNat i) Law20Step.zero).Address]))) (cond (bif
    bif
        bif !r20Same (accAdd (copied20 l) (List.getD steps (Int.toNat i) Law20Step.zero).Address).fst l then true
        else decide ((64 : Int) < (↑(List.length l) : Int)) then
      true
    else
      bif (accAdd (copied20 l) (List.getD steps (Int.toNat i) Law20Step.zero).Address).snd == (0 : Int) then
        !accHas (accAdd (copied20 l) (List.getD steps (Int.toNat i) Law20Step.zero).Address).fst []
              (List.getD steps (Int.toNat i) Law20Step.zero).Address ==
            (List.getD steps (Int.toNat i) Law20Step.zero).Add
      else false then
  true
else
  bif (accAdd (copied20 l) (List.getD steps (Int.toNat i) Law20Step.zero).Address).snd == (0 : Int) then
    r20Element (copied20 l) (List.getD steps (Int.toNat i) Law20Step.zero).Address ==
      (List.getD steps (Int.toNat i) Law20Step.zero).Add
  else false) (false) (acceptLists.go steps n0 (IntKind.wrap IntKind.i64 (i + (1 : Int))) (l)))) (cond ((accRemove (copied20 l) (List.getD steps (Int.toNat i) Law20Step.zero).Address).snd == (0 : Int)) (cond (bif
    bif
        bif
            !r20Same (accRemove (copied20 l) (List.getD steps (Int.toNat i) Law20Step.zero).Address).fst
                (without l (List.getD steps (Int.toNat i) Law20Step.zero).Address) then
          true
        else
          decide
            ((64 : Int) <
              (↑(List.length (without l (List.getD steps (Int.toNat i) Law20Step.zero).Address)) : Int)) then
      true
    else
      bif (accRemove (copied20 l) (List.getD steps (Int.toNat i) Law20Step.zero).Address).snd == (0 : Int) then
        !accHas (accRemove (copied20 l) (List.getD steps (Int.toNat i) Law20Step.zero).Address).fst []
              (List.getD steps (Int.toNat i) Law20Step.zero).Address ==
            (List.getD steps (Int.toNat i) Law20Step.zero).Add
      else false then
  true
else
  bif (accRemove (copied20 l) (List.getD steps (Int.toNat i) Law20Step.zero).Address).snd == (0 : Int) then
    r20Element (copied20 l) (List.getD steps (Int.toNat i) Law20Step.zero).Address ==
      (List.getD steps (Int.toNat i) Law20Step.zero).Add
  else false) (false) (acceptLists.go steps n0 (IntKind.wrap IntKind.i64 (i + (1 : Int))) (without l (List.getD steps (Int.toNat i) Law20Step.zero).Address))) (cond (bif
    bif
        bif !r20Same (accRemove (copied20 l) (List.getD steps (Int.toNat i) Law20Step.zero).Address).fst l then true
        else decide ((64 : Int) < (↑(List.length l) : Int)) then
      true
    else
      bif (accRemove (copied20 l) (List.getD steps (Int.toNat i) Law20Step.zero).Address).snd == (0 : Int) then
        !accHas (accRemove (copied20 l) (List.getD steps (Int.toNat i) Law20Step.zero).Address).fst []
              (List.getD steps (Int.toNat i) Law20Step.zero).Address ==
            (List.getD steps (Int.toNat i) Law20Step.zero).Add
      else false then
  true
else
  bif (accRemove (copied20 l) (List.getD steps (Int.toNat i) Law20Step.zero).Address).snd == (0 : Int) then
    r20Element (copied20 l) (List.getD steps (Int.toNat i) Law20Step.zero).Address ==
      (List.getD steps (Int.toNat i) Law20Step.zero).Add
  else false) (false) (acceptLists.go steps n0 (IntKind.wrap IntKind.i64 (i + (1 : Int))) (l))))) (true)
def acceptLists.hd (steps : List Law20Step) (i : Int) (l : List Address) : St El := { lo := 0, slots := [(4, .v (.int .i64 (i))), (3, .gs 0), (0, .sl 42 (steps : List (El 42)) false)], n := 97, objs := [.row 25 (l : List (El 25))] }
def acceptLists.st (steps : List Law20Step) (i : Int) (l : List Address) (J : St El → Prop) (K : AV El → List (AObj El) → Prop) : Prop := (List.length steps ≤ (9223372036854775807 : Nat)) → (cond (decide (i < (↑(List.length steps) : Int))) (Ob ((0 : Int) ≤ i ∧ i < (↑(List.length steps) : Int)) ∧ (Ob (List.length l ≤ (4611686018427 : Nat)) ∧ (Ob ((0 : Int) ≤ i ∧ i < (↑(List.length steps) : Int)) ∧ (cond ((List.getD steps (Int.toNat i) Law20Step.zero).Add) (Ob (List.length l ≤ (4611686018427 : Nat)) ∧ (Ob (List.length (copied20 l) ≤ (4611686018427 : Nat)) ∧ (cond ((accAdd (copied20 l) (List.getD steps (Int.toNat i) Law20Step.zero).Address).snd == (0 : Int)) (Ob ((List.length l + List.length [(List.getD steps (Int.toNat i) Law20Step.zero).Address]) * (16 : Nat) ≤
  (140737488355328 : Nat)) ∧ (Ob (o3 (!!r20Same (accAdd (copied20 l) (List.getD steps (Int.toNat i) Law20Step.zero).Address).fst
      (l ++ [(List.getD steps (Int.toNat i) Law20Step.zero).Address]))) ∧ (Ob (o3 (!!r20Same (accAdd (copied20 l) (List.getD steps (Int.toNat i) Law20Step.zero).Address).fst
      (l ++ [(List.getD steps (Int.toNat i) Law20Step.zero).Address]))) ∧ (Ob (on (!r20Same (accAdd (copied20 l) (List.getD steps (Int.toNat i) Law20Step.zero).Address).fst
    (l ++ [(List.getD steps (Int.toNat i) Law20Step.zero).Address]))) ∧ (Ob (o3 (!bif
      !r20Same (accAdd (copied20 l) (List.getD steps (Int.toNat i) Law20Step.zero).Address).fst
          (l ++ [(List.getD steps (Int.toNat i) Law20Step.zero).Address]) then
    true
  else decide ((64 : Int) < (↑(List.length (l ++ [(List.getD steps (Int.toNat i) Law20Step.zero).Address])) : Int)))) ∧ (Ob (o3 (!bif
      !r20Same (accAdd (copied20 l) (List.getD steps (Int.toNat i) Law20Step.zero).Address).fst
          (l ++ [(List.getD steps (Int.toNat i) Law20Step.zero).Address]) then
    true
  else decide ((64 : Int) < (↑(List.length (l ++ [(List.getD steps (Int.toNat i) Law20Step.zero).Address])) : Int)))) ∧ (Ob (o3 ((!bif
        !r20Same (accAdd (copied20 l) (List.getD steps (Int.toNat i) Law20Step.zero).Address).fst
            (l ++ [(List.getD steps (Int.toNat i) Law20Step.zero).Address]) then
      true
    else
      decide ((64 : Int) < (↑(List.length (l ++ [(List.getD steps (Int.toNat i) Law20Step.zero).Address])) : Int))) &&
  (accAdd (copied20 l) (List.getD steps (Int.toNat i) Law20Step.zero).Address).snd == (0 : Int))) ∧ (Ob (o3 ((!bif
        !r20Same (accAdd (copied20 l) (List.getD steps (Int.toNat i) Law20Step.zero).Address).fst
            (l ++ [(List.getD steps (Int.toNat i) Law20Step.zero).Address]) then
      true
    else
      decide ((64 : Int) < (↑(List.length (l ++ [(List.getD steps (Int.toNat i) Law20Step.zero).Address])) : Int))) &&
  (accAdd (copied20 l) (List.getD steps (Int.toNat i) Law20Step.zero).Address).snd == (0 : Int))) ∧ (Ob (o3 ((!bif
        !r20Same (accAdd (copied20 l) (List.getD steps (Int.toNat i) Law20Step.zero).Address).fst
            (l ++ [(List.getD steps (Int.toNat i) Law20Step.zero).Address]) then
      true
    else
      decide ((64 : Int) < (↑(List.length (l ++ [(List.getD steps (Int.toNat i) Law20Step.zero).Address])) : Int))) &&
  (accAdd (copied20 l) (List.getD steps (Int.toNat i) Law20Step.zero).Address).snd == (0 : Int))) ∧ (Ob (o3 ((!bif
        !r20Same (accAdd (copied20 l) (List.getD steps (Int.toNat i) Law20Step.zero).Address).fst
            (l ++ [(List.getD steps (Int.toNat i) Law20Step.zero).Address]) then
      true
    else
      decide ((64 : Int) < (↑(List.length (l ++ [(List.getD steps (Int.toNat i) Law20Step.zero).Address])) : Int))) &&
  (accAdd (copied20 l) (List.getD steps (Int.toNat i) Law20Step.zero).Address).snd == (0 : Int))) ∧ (Ob (((!bif
            !r20Same (accAdd (copied20 l) (List.getD steps (Int.toNat i) Law20Step.zero).Address).fst
                (l ++ [(List.getD steps (Int.toNat i) Law20Step.zero).Address]) then
          true
        else
          decide
            ((64 : Int) < (↑(List.length (l ++ [(List.getD steps (Int.toNat i) Law20Step.zero).Address])) : Int))) &&
      (accAdd (copied20 l) (List.getD steps (Int.toNat i) Law20Step.zero).Address).snd == (0 : Int)) =
    true →
  (0 : Int) ≤ i ∧ i < (↑(List.length steps) : Int)) ∧ (Ob (o3 ((!bif
        !r20Same (accAdd (copied20 l) (List.getD steps (Int.toNat i) Law20Step.zero).Address).fst
            (l ++ [(List.getD steps (Int.toNat i) Law20Step.zero).Address]) then
      true
    else
      decide ((64 : Int) < (↑(List.length (l ++ [(List.getD steps (Int.toNat i) Law20Step.zero).Address])) : Int))) &&
  (accAdd (copied20 l) (List.getD steps (Int.toNat i) Law20Step.zero).Address).snd == (0 : Int))) ∧ (Ob (o3 ((!bif
        !r20Same (accAdd (copied20 l) (List.getD steps (Int.toNat i) Law20Step.zero).Address).fst
            (l ++ [(List.getD steps (Int.toNat i) Law20Step.zero).Address]) then
      true
    else
      decide ((64 : Int) < (↑(List.length (l ++ [(List.getD steps (Int.toNat i) Law20Step.zero).Address])) : Int))) &&
  (accAdd (copied20 l) (List.getD steps (Int.toNat i) Law20Step.zero).Address).snd == (0 : Int))) ∧ (Ob (o3 ((!bif
        !r20Same (accAdd (copied20 l) (List.getD steps (Int.toNat i) Law20Step.zero).Address).fst
            (l ++ [(List.getD steps (Int.toNat i) Law20Step.zero).Address]) then
      true
    else
      decide ((64 : Int) < (↑(List.length (l ++ [(List.getD steps (Int.toNat i) Law20Step.zero).Address])) : Int))) &&
  (accAdd (copied20 l) (List.getD steps (Int.toNat i) Law20Step.zero).Address).snd == (0 : Int))) ∧ (Ob (o3 ((!bif
        !r20Same (accAdd (copied20 l) (List.getD steps (Int.toNat i) Law20Step.zero).Address).fst
            (l ++ [(List.getD steps (Int.toNat i) Law20Step.zero).Address]) then
      true
    else
      decide ((64 : Int) < (↑(List.length (l ++ [(List.getD steps (Int.toNat i) Law20Step.zero).Address])) : Int))) &&
  (accAdd (copied20 l) (List.getD steps (Int.toNat i) Law20Step.zero).Address).snd == (0 : Int))) ∧ (Ob (o2 (!bif
      !r20Same (accAdd (copied20 l) (List.getD steps (Int.toNat i) Law20Step.zero).Address).fst
          (l ++ [(List.getD steps (Int.toNat i) Law20Step.zero).Address]) then
    true
  else decide ((64 : Int) < (↑(List.length (l ++ [(List.getD steps (Int.toNat i) Law20Step.zero).Address])) : Int)))) ∧ (Ob ((!bif
          !r20Same (accAdd (copied20 l) (List.getD steps (Int.toNat i) Law20Step.zero).Address).fst
              (l ++ [(List.getD steps (Int.toNat i) Law20Step.zero).Address]) then
        true
      else
        decide ((64 : Int) < (↑(List.length (l ++ [(List.getD steps (Int.toNat i) Law20Step.zero).Address])) : Int))) =
    true →
  ((accAdd (copied20 l) (List.getD steps (Int.toNat i) Law20Step.zero).Address).snd == (0 : Int)) = true →
    ((!bif
              !r20Same (accAdd (copied20 l) (List.getD steps (Int.toNat i) Law20Step.zero).Address).fst
                  (l ++ [(List.getD steps (Int.toNat i) Law20Step.zero).Address]) then
            true
          else
            decide
              ((64 : Int) < (↑(List.length (l ++ [(List.getD steps (Int.toNat i) Law20Step.zero).Address])) : Int))) &&
        (accAdd (copied20 l) (List.getD steps (Int.toNat i) Law20Step.zero).Address).snd == (0 : Int)) =
      true) ∧ (Ob (on (bif
    !r20Same (accAdd (copied20 l) (List.getD steps (Int.toNat i) Law20Step.zero).Address).fst
        (l ++ [(List.getD steps (Int.toNat i) Law20Step.zero).Address]) then
  true
else decide ((64 : Int) < (↑(List.length (l ++ [(List.getD steps (Int.toNat i) Law20Step.zero).Address])) : Int)))) ∧ (Ob (o3 (!bif
      bif
          !r20Same (accAdd (copied20 l) (List.getD steps (Int.toNat i) Law20Step.zero).Address).fst
              (l ++ [(List.getD steps (Int.toNat i) Law20Step.zero).Address]) then
        true
      else
        decide
          ((64 : Int) < (↑(List.length (l ++ [(List.getD steps (Int.toNat i) Law20Step.zero).Address])) : Int)) then
    true
  else
    bif (accAdd (copied20 l) (List.getD steps (Int.toNat i) Law20Step.zero).Address).snd == (0 : Int) then
      !accHas (accAdd (copied20 l) (List.getD steps (Int.toNat i) Law20Step.zero).Address).fst []
            (List.getD steps (Int.toNat i) Law20Step.zero).Address ==
          (List.getD steps (Int.toNat i) Law20Step.zero).Add
    else false)) ∧ (Ob (o3 (!bif
      bif
          !r20Same (accAdd (copied20 l) (List.getD steps (Int.toNat i) Law20Step.zero).Address).fst
              (l ++ [(List.getD steps (Int.toNat i) Law20Step.zero).Address]) then
        true
      else
        decide
          ((64 : Int) < (↑(List.length (l ++ [(List.getD steps (Int.toNat i) Law20Step.zero).Address])) : Int)) then
    true
  else
    bif (accAdd (copied20 l) (List.getD steps (Int.toNat i) Law20Step.zero).Address).snd == (0 : Int) then
      !accHas (accAdd (copied20 l) (List.getD steps (Int.toNat i) Law20Step.zero).Address).fst []
            (List.getD steps (Int.toNat i) Law20Step.zero).Address ==
          (List.getD steps (Int.toNat i) Law20Step.zero).Add
    else false)) ∧ (Ob (o3 ((!bif
        bif
            !r20Same (accAdd (copied20 l) (List.getD steps (Int.toNat i) Law20Step.zero).Address).fst
                (l ++ [(List.getD steps (Int.toNat i) Law20Step.zero).Address]) then
          true
        else
          decide
            ((64 : Int) < (↑(List.length (l ++ [(List.getD steps (Int.toNat i) Law20Step.zero).Address])) : Int)) then
      true
    else
      bif (accAdd (copied20 l) (List.getD steps (Int.toNat i) Law20Step.zero).Address).snd == (0 : Int) then
        !accHas (accAdd (copied20 l) (List.getD steps (Int.toNat i) Law20Step.zero).Address).fst []
              (List.getD steps (Int.toNat i) Law20Step.zero).Address ==
            (List.getD steps (Int.toNat i) Law20Step.zero).Add
      else false) &&
  (accAdd (copied20 l) (List.getD steps (Int.toNat i) Law20Step.zero).Address).snd == (0 : Int))) ∧ (Ob (o3 ((!bif
        bif
            !r20Same (accAdd (copied20 l) (List.getD steps (Int.toNat i) Law20Step.zero).Address).fst
                (l ++ [(List.getD steps (Int.toNat i) Law20Step.zero).Address]) then
          true
        else
          decide
            ((64 : Int) < (↑(List.length (l ++ [(List.getD steps (Int.toNat i) Law20Step.zero).Address])) : Int)) then
      true
    else
      bif (accAdd (copied20 l) (List.getD steps (Int.toNat i) Law20Step.zero).Address).snd == (0 : Int) then
        !accHas (accAdd (copied20 l) (List.getD steps (Int.toNat i) Law20Step.zero).Address).fst []
              (List.getD steps (Int.toNat i) Law20Step.zero).Address ==
            (List.getD steps (Int.toNat i) Law20Step.zero).Add
      else false) &&
  (accAdd (copied20 l) (List.getD steps (Int.toNat i) Law20Step.zero).Address).snd == (0 : Int))) ∧ (Ob (o3 ((!bif
        bif
            !r20Same (accAdd (copied20 l) (List.getD steps (Int.toNat i) Law20Step.zero).Address).fst
                (l ++ [(List.getD steps (Int.toNat i) Law20Step.zero).Address]) then
          true
        else
          decide
            ((64 : Int) < (↑(List.length (l ++ [(List.getD steps (Int.toNat i) Law20Step.zero).Address])) : Int)) then
      true
    else
      bif (accAdd (copied20 l) (List.getD steps (Int.toNat i) Law20Step.zero).Address).snd == (0 : Int) then
        !accHas (accAdd (copied20 l) (List.getD steps (Int.toNat i) Law20Step.zero).Address).fst []
              (List.getD steps (Int.toNat i) Law20Step.zero).Address ==
            (List.getD steps (Int.toNat i) Law20Step.zero).Add
      else false) &&
  (accAdd (copied20 l) (List.getD steps (Int.toNat i) Law20Step.zero).Address).snd == (0 : Int))) ∧ (Ob (o3 ((!bif
        bif
            !r20Same (accAdd (copied20 l) (List.getD steps (Int.toNat i) Law20Step.zero).Address).fst
                (l ++ [(List.getD steps (Int.toNat i) Law20Step.zero).Address]) then
          true
        else
          decide
            ((64 : Int) < (↑(List.length (l ++ [(List.getD steps (Int.toNat i) Law20Step.zero).Address])) : Int)) then
      true
    else
      bif (accAdd (copied20 l) (List.getD steps (Int.toNat i) Law20Step.zero).Address).snd == (0 : Int) then
        !accHas (accAdd (copied20 l) (List.getD steps (Int.toNat i) Law20Step.zero).Address).fst []
              (List.getD steps (Int.toNat i) Law20Step.zero).Address ==
            (List.getD steps (Int.toNat i) Law20Step.zero).Add
      else false) &&
  (accAdd (copied20 l) (List.getD steps (Int.toNat i) Law20Step.zero).Address).snd == (0 : Int))) ∧ (Ob (((!bif
            bif
                !r20Same (accAdd (copied20 l) (List.getD steps (Int.toNat i) Law20Step.zero).Address).fst
                    (l ++ [(List.getD steps (Int.toNat i) Law20Step.zero).Address]) then
              true
            else
              decide
                ((64 : Int) <
                  (↑(List.length (l ++ [(List.getD steps (Int.toNat i) Law20Step.zero).Address])) : Int)) then
          true
        else
          bif (accAdd (copied20 l) (List.getD steps (Int.toNat i) Law20Step.zero).Address).snd == (0 : Int) then
            !accHas (accAdd (copied20 l) (List.getD steps (Int.toNat i) Law20Step.zero).Address).fst []
                  (List.getD steps (Int.toNat i) Law20Step.zero).Address ==
                (List.getD steps (Int.toNat i) Law20Step.zero).Add
          else false) &&
      (accAdd (copied20 l) (List.getD steps (Int.toNat i) Law20Step.zero).Address).snd == (0 : Int)) =
    true →
  (0 : Int) ≤ i ∧ i < (↑(List.length steps) : Int)) ∧ (Ob (o3 ((!bif
        bif
            !r20Same (accAdd (copied20 l) (List.getD steps (Int.toNat i) Law20Step.zero).Address).fst
                (l ++ [(List.getD steps (Int.toNat i) Law20Step.zero).Address]) then
          true
        else
          decide
            ((64 : Int) < (↑(List.length (l ++ [(List.getD steps (Int.toNat i) Law20Step.zero).Address])) : Int)) then
      true
    else
      bif (accAdd (copied20 l) (List.getD steps (Int.toNat i) Law20Step.zero).Address).snd == (0 : Int) then
        !accHas (accAdd (copied20 l) (List.getD steps (Int.toNat i) Law20Step.zero).Address).fst []
              (List.getD steps (Int.toNat i) Law20Step.zero).Address ==
            (List.getD steps (Int.toNat i) Law20Step.zero).Add
      else false) &&
  (accAdd (copied20 l) (List.getD steps (Int.toNat i) Law20Step.zero).Address).snd == (0 : Int))) ∧ (Ob (o3 ((!bif
        bif
            !r20Same (accAdd (copied20 l) (List.getD steps (Int.toNat i) Law20Step.zero).Address).fst
                (l ++ [(List.getD steps (Int.toNat i) Law20Step.zero).Address]) then
          true
        else
          decide
            ((64 : Int) < (↑(List.length (l ++ [(List.getD steps (Int.toNat i) Law20Step.zero).Address])) : Int)) then
      true
    else
      bif (accAdd (copied20 l) (List.getD steps (Int.toNat i) Law20Step.zero).Address).snd == (0 : Int) then
        !accHas (accAdd (copied20 l) (List.getD steps (Int.toNat i) Law20Step.zero).Address).fst []
              (List.getD steps (Int.toNat i) Law20Step.zero).Address ==
            (List.getD steps (Int.toNat i) Law20Step.zero).Add
      else false) &&
  (accAdd (copied20 l) (List.getD steps (Int.toNat i) Law20Step.zero).Address).snd == (0 : Int))) ∧ (Ob (o3 ((!bif
        bif
            !r20Same (accAdd (copied20 l) (List.getD steps (Int.toNat i) Law20Step.zero).Address).fst
                (l ++ [(List.getD steps (Int.toNat i) Law20Step.zero).Address]) then
          true
        else
          decide
            ((64 : Int) < (↑(List.length (l ++ [(List.getD steps (Int.toNat i) Law20Step.zero).Address])) : Int)) then
      true
    else
      bif (accAdd (copied20 l) (List.getD steps (Int.toNat i) Law20Step.zero).Address).snd == (0 : Int) then
        !accHas (accAdd (copied20 l) (List.getD steps (Int.toNat i) Law20Step.zero).Address).fst []
              (List.getD steps (Int.toNat i) Law20Step.zero).Address ==
            (List.getD steps (Int.toNat i) Law20Step.zero).Add
      else false) &&
  (accAdd (copied20 l) (List.getD steps (Int.toNat i) Law20Step.zero).Address).snd == (0 : Int))) ∧ (Ob (o3 ((!bif
        bif
            !r20Same (accAdd (copied20 l) (List.getD steps (Int.toNat i) Law20Step.zero).Address).fst
                (l ++ [(List.getD steps (Int.toNat i) Law20Step.zero).Address]) then
          true
        else
          decide
            ((64 : Int) < (↑(List.length (l ++ [(List.getD steps (Int.toNat i) Law20Step.zero).Address])) : Int)) then
      true
    else
      bif (accAdd (copied20 l) (List.getD steps (Int.toNat i) Law20Step.zero).Address).snd == (0 : Int) then
        !accHas (accAdd (copied20 l) (List.getD steps (Int.toNat i) Law20Step.zero).Address).fst []
              (List.getD steps (Int.toNat i) Law20Step.zero).Address ==
            (List.getD steps (Int.toNat i) Law20Step.zero).Add
      else false) &&
  (accAdd (copied20 l) (List.getD steps (Int.toNat i) Law20Step.zero).Address).snd == (0 : Int))) ∧ (Ob (o2 (!bif
      bif
          !r20Same (accAdd (copied20 l) (List.getD steps (Int.toNat i) Law20Step.zero).Address).fst
              (l ++ [(List.getD steps (Int.toNat i) Law20Step.zero).Address]) then
        true
      else
        decide
          ((64 : Int) < (↑(List.length (l ++ [(List.getD steps (Int.toNat i) Law20Step.zero).Address])) : Int)) then
    true
  else
    bif (accAdd (copied20 l) (List.getD steps (Int.toNat i) Law20Step.zero).Address).snd == (0 : Int) then
      !accHas (accAdd (copied20 l) (List.getD steps (Int.toNat i) Law20Step.zero).Address).fst []
            (List.getD steps (Int.toNat i) Law20Step.zero).Address ==
          (List.getD steps (Int.toNat i) Law20Step.zero).Add
    else false)) ∧ (Ob ((!bif
          bif
              !r20Same (accAdd (copied20 l) (List.getD steps (Int.toNat i) Law20Step.zero).Address).fst
                  (l ++ [(List.getD steps (Int.toNat i) Law20Step.zero).Address]) then
            true
          else
            decide
              ((64 : Int) < (↑(List.length (l ++ [(List.getD steps (Int.toNat i) Law20Step.zero).Address])) : Int)) then
        true
      else
        bif (accAdd (copied20 l) (List.getD steps (Int.toNat i) Law20Step.zero).Address).snd == (0 : Int) then
          !accHas (accAdd (copied20 l) (List.getD steps (Int.toNat i) Law20Step.zero).Address).fst []
                (List.getD steps (Int.toNat i) Law20Step.zero).Address ==
              (List.getD steps (Int.toNat i) Law20Step.zero).Add
        else false) =
    true →
  ((accAdd (copied20 l) (List.getD steps (Int.toNat i) Law20Step.zero).Address).snd == (0 : Int)) = true →
    ((!bif
              bif
                  !r20Same (accAdd (copied20 l) (List.getD steps (Int.toNat i) Law20Step.zero).Address).fst
                      (l ++ [(List.getD steps (Int.toNat i) Law20Step.zero).Address]) then
                true
              else
                decide
                  ((64 : Int) <
                    (↑(List.length (l ++ [(List.getD steps (Int.toNat i) Law20Step.zero).Address])) : Int)) then
            true
          else
            bif (accAdd (copied20 l) (List.getD steps (Int.toNat i) Law20Step.zero).Address).snd == (0 : Int) then
              !accHas (accAdd (copied20 l) (List.getD steps (Int.toNat i) Law20Step.zero).Address).fst []
                    (List.getD steps (Int.toNat i) Law20Step.zero).Address ==
                  (List.getD steps (Int.toNat i) Law20Step.zero).Add
            else false) &&
        (accAdd (copied20 l) (List.getD steps (Int.toNat i) Law20Step.zero).Address).snd == (0 : Int)) =
      true) ∧ (Ob (on (bif
    bif
        !r20Same (accAdd (copied20 l) (List.getD steps (Int.toNat i) Law20Step.zero).Address).fst
            (l ++ [(List.getD steps (Int.toNat i) Law20Step.zero).Address]) then
      true
    else
      decide ((64 : Int) < (↑(List.length (l ++ [(List.getD steps (Int.toNat i) Law20Step.zero).Address])) : Int)) then
  true
else
  bif (accAdd (copied20 l) (List.getD steps (Int.toNat i) Law20Step.zero).Address).snd == (0 : Int) then
    !accHas (accAdd (copied20 l) (List.getD steps (Int.toNat i) Law20Step.zero).Address).fst []
          (List.getD steps (Int.toNat i) Law20Step.zero).Address ==
        (List.getD steps (Int.toNat i) Law20Step.zero).Add
  else false)) ∧ (cond (bif
    bif
        bif
            !r20Same (accAdd (copied20 l) (List.getD steps (Int.toNat i) Law20Step.zero).Address).fst
                (l ++ [(List.getD steps (Int.toNat i) Law20Step.zero).Address]) then
          true
        else
          decide
            ((64 : Int) < (↑(List.length (l ++ [(List.getD steps (Int.toNat i) Law20Step.zero).Address])) : Int)) then
      true
    else
      bif (accAdd (copied20 l) (List.getD steps (Int.toNat i) Law20Step.zero).Address).snd == (0 : Int) then
        !accHas (accAdd (copied20 l) (List.getD steps (Int.toNat i) Law20Step.zero).Address).fst []
              (List.getD steps (Int.toNat i) Law20Step.zero).Address ==
            (List.getD steps (Int.toNat i) Law20Step.zero).Add
      else false then
  true
else
  bif (accAdd (copied20 l) (List.getD steps (Int.toNat i) Law20Step.zero).Address).snd == (0 : Int) then
    r20Element (copied20 l) (List.getD steps (Int.toNat i) Law20Step.zero).Address ==
      (List.getD steps (Int.toNat i) Law20Step.zero).Add
  else false) (K (.v (.bool (false))) [.gone, .cells [.v (.int .i64 ((List.getD steps (Int.toNat i) Law20Step.zero).Address.Kind)), .v (.int .u64 ((List.getD steps (Int.toNat i) Law20Step.zero).Address.Bits))], .row 25 (copied20 l : List (El 25)), .row 25 ([(List.getD steps (Int.toNat i) Law20Step.zero).Address] : List (El 25)), .row 25 (l ++ [(List.getD steps (Int.toNat i) Law20Step.zero).Address] : List (El 25))]) (J (acceptLists.hd steps (IntKind.wrap IntKind.i64 (i + (1 : Int))) (l ++ [(List.getD steps (Int.toNat i) Law20Step.zero).Address])))))))))))))))))))))))))))))))))))) (Ob (o3 (!!r20Same (accAdd (copied20 l) (List.getD steps (Int.toNat i) Law20Step.zero).Address).fst l)) ∧ (Ob (o3 (!!r20Same (accAdd (copied20 l) (List.getD steps (Int.toNat i) Law20Step.zero).Address).fst l)) ∧ (Ob (on (!r20Same (accAdd (copied20 l) (List.getD steps (Int.toNat i) Law20Step.zero).Address).fst l)) ∧ (Ob (o3 (!bif !r20Same (accAdd (copied20 l) (List.getD steps (Int.toNat i) Law20Step.zero).Address).fst l then true
  else decide ((64 : Int) < (↑(List.length l) : Int)))) ∧ (Ob (o3 (!bif !r20Same (accAdd (copied20 l) (List.getD steps (Int.toNat i) Law20Step.zero).Address).fst l then true
  else decide ((64 : Int) < (↑(List.length l) : Int)))) ∧ (Ob (o3 ((!bif !r20Same (accAdd (copied20 l) (List.getD steps (Int.toNat i) Law20Step.zero).Address).fst l then true
    else decide ((64 : Int) < (↑(List.length l) : Int))) &&
  (accAdd (copied20 l) (List.getD steps (Int.toNat i) Law20Step.zero).Address).snd == (0 : Int))) ∧ (Ob (o3 ((!bif !r20Same (accAdd (copied20 l) (List.getD steps (Int.toNat i) Law20Step.zero).Address).fst l then true
    else decide ((64 : Int) < (↑(List.length l) : Int))) &&
  (accAdd (copied20 l) (List.getD steps (Int.toNat i) Law20Step.zero).Address).snd == (0 : Int))) ∧ (Ob (o3 ((!bif !r20Same (accAdd (copied20 l) (List.getD steps (Int.toNat i) Law20Step.zero).Address).fst l then true
    else decide ((64 : Int) < (↑(List.length l) : Int))) &&
  (accAdd (copied20 l) (List.getD steps (Int.toNat i) Law20Step.zero).Address).snd == (0 : Int))) ∧ (Ob (o3 ((!bif !r20Same (accAdd (copied20 l) (List.getD steps (Int.toNat i) Law20Step.zero).Address).fst l then true
    else decide ((64 : Int) < (↑(List.length l) : Int))) &&
  (accAdd (copied20 l) (List.getD steps (Int.toNat i) Law20Step.zero).Address).snd == (0 : Int))) ∧ (Ob (((!bif !r20Same (accAdd (copied20 l) (List.getD steps (Int.toNat i) Law20Step.zero).Address).fst l then true
        else decide ((64 : Int) < (↑(List.length l) : Int))) &&
      (accAdd (copied20 l) (List.getD steps (Int.toNat i) Law20Step.zero).Address).snd == (0 : Int)) =
    true →
  (0 : Int) ≤ i ∧ i < (↑(List.length steps) : Int)) ∧ (Ob (o3 ((!bif !r20Same (accAdd (copied20 l) (List.getD steps (Int.toNat i) Law20Step.zero).Address).fst l then true
    else decide ((64 : Int) < (↑(List.length l) : Int))) &&
  (accAdd (copied20 l) (List.getD steps (Int.toNat i) Law20Step.zero).Address).snd == (0 : Int))) ∧ (Ob (o3 ((!bif !r20Same (accAdd (copied20 l) (List.getD steps (Int.toNat i) Law20Step.zero).Address).fst l then true
    else decide ((64 : Int) < (↑(List.length l) : Int))) &&
  (accAdd (copied20 l) (List.getD steps (Int.toNat i) Law20Step.zero).Address).snd == (0 : Int))) ∧ (Ob (o3 ((!bif !r20Same (accAdd (copied20 l) (List.getD steps (Int.toNat i) Law20Step.zero).Address).fst l then true
    else decide ((64 : Int) < (↑(List.length l) : Int))) &&
  (accAdd (copied20 l) (List.getD steps (Int.toNat i) Law20Step.zero).Address).snd == (0 : Int))) ∧ (Ob (o3 ((!bif !r20Same (accAdd (copied20 l) (List.getD steps (Int.toNat i) Law20Step.zero).Address).fst l then true
    else decide ((64 : Int) < (↑(List.length l) : Int))) &&
  (accAdd (copied20 l) (List.getD steps (Int.toNat i) Law20Step.zero).Address).snd == (0 : Int))) ∧ (Ob (o2 (!bif !r20Same (accAdd (copied20 l) (List.getD steps (Int.toNat i) Law20Step.zero).Address).fst l then true
  else decide ((64 : Int) < (↑(List.length l) : Int)))) ∧ (Ob ((!bif !r20Same (accAdd (copied20 l) (List.getD steps (Int.toNat i) Law20Step.zero).Address).fst l then true
      else decide ((64 : Int) < (↑(List.length l) : Int))) =
    true →
  ((accAdd (copied20 l) (List.getD steps (Int.toNat i) Law20Step.zero).Address).snd == (0 : Int)) = true →
    ((!bif !r20Same (accAdd (copied20 l) (List.getD steps (Int.toNat i) Law20Step.zero).Address).fst l then true
          else decide ((64 : Int) < (↑(List.length l) : Int))) &&
        (accAdd (copied20 l) (List.getD steps (Int.toNat i) Law20Step.zero).Address).snd == (0 : Int)) =
      true) ∧ (Ob (on (bif !r20Same (accAdd (copied20 l) (List.getD steps (Int.toNat i) Law20Step.zero).Address).fst l then true
else decide ((64 : Int) < (↑(List.length l) : Int)))) ∧ (Ob (o3 (!bif
      bif !r20Same (accAdd (copied20 l) (List.getD steps (Int.toNat i) Law20Step.zero).Address).fst l then true
      else decide ((64 : Int) < (↑(List.length l) : Int)) then
    true
  else
    bif (accAdd (copied20 l) (List.getD steps (Int.toNat i) Law20Step.zero).Address).snd == (0 : Int) then
      !accHas (accAdd (copied20 l) (List.getD steps (Int.toNat i) Law20Step.zero).Address).fst []
            (List.getD steps (Int.toNat i) Law20Step.zero).Address ==
          (List.getD steps (Int.toNat i) Law20Step.zero).Add
    else false)) ∧ (Ob (o3 (!bif
      bif !r20Same (accAdd (copied20 l) (List.getD steps (Int.toNat i) Law20Step.zero).Address).fst l then true
      else decide ((64 : Int) < (↑(List.length l) : Int)) then
    true
  else
    bif (accAdd (copied20 l) (List.getD steps (Int.toNat i) Law20Step.zero).Address).snd == (0 : Int) then
      !accHas (accAdd (copied20 l) (List.getD steps (Int.toNat i) Law20Step.zero).Address).fst []
            (List.getD steps (Int.toNat i) Law20Step.zero).Address ==
          (List.getD steps (Int.toNat i) Law20Step.zero).Add
    else false)) ∧ (Ob (o3 ((!bif
        bif !r20Same (accAdd (copied20 l) (List.getD steps (Int.toNat i) Law20Step.zero).Address).fst l then true
        else decide ((64 : Int) < (↑(List.length l) : Int)) then
      true
    else
      bif (accAdd (copied20 l) (List.getD steps (Int.toNat i) Law20Step.zero).Address).snd == (0 : Int) then
        !accHas (accAdd (copied20 l) (List.getD steps (Int.toNat i) Law20Step.zero).Address).fst []
              (List.getD steps (Int.toNat i) Law20Step.zero).Address ==
            (List.getD steps (Int.toNat i) Law20Step.zero).Add
      else false) &&
  (accAdd (copied20 l) (List.getD steps (Int.toNat i) Law20Step.zero).Address).snd == (0 : Int))) ∧ (Ob (o3 ((!bif
        bif !r20Same (accAdd (copied20 l) (List.getD steps (Int.toNat i) Law20Step.zero).Address).fst l then true
        else decide ((64 : Int) < (↑(List.length l) : Int)) then
      true
    else
      bif (accAdd (copied20 l) (List.getD steps (Int.toNat i) Law20Step.zero).Address).snd == (0 : Int) then
        !accHas (accAdd (copied20 l) (List.getD steps (Int.toNat i) Law20Step.zero).Address).fst []
              (List.getD steps (Int.toNat i) Law20Step.zero).Address ==
            (List.getD steps (Int.toNat i) Law20Step.zero).Add
      else false) &&
  (accAdd (copied20 l) (List.getD steps (Int.toNat i) Law20Step.zero).Address).snd == (0 : Int))) ∧ (Ob (o3 ((!bif
        bif !r20Same (accAdd (copied20 l) (List.getD steps (Int.toNat i) Law20Step.zero).Address).fst l then true
        else decide ((64 : Int) < (↑(List.length l) : Int)) then
      true
    else
      bif (accAdd (copied20 l) (List.getD steps (Int.toNat i) Law20Step.zero).Address).snd == (0 : Int) then
        !accHas (accAdd (copied20 l) (List.getD steps (Int.toNat i) Law20Step.zero).Address).fst []
              (List.getD steps (Int.toNat i) Law20Step.zero).Address ==
            (List.getD steps (Int.toNat i) Law20Step.zero).Add
      else false) &&
  (accAdd (copied20 l) (List.getD steps (Int.toNat i) Law20Step.zero).Address).snd == (0 : Int))) ∧ (Ob (o3 ((!bif
        bif !r20Same (accAdd (copied20 l) (List.getD steps (Int.toNat i) Law20Step.zero).Address).fst l then true
        else decide ((64 : Int) < (↑(List.length l) : Int)) then
      true
    else
      bif (accAdd (copied20 l) (List.getD steps (Int.toNat i) Law20Step.zero).Address).snd == (0 : Int) then
        !accHas (accAdd (copied20 l) (List.getD steps (Int.toNat i) Law20Step.zero).Address).fst []
              (List.getD steps (Int.toNat i) Law20Step.zero).Address ==
            (List.getD steps (Int.toNat i) Law20Step.zero).Add
      else false) &&
  (accAdd (copied20 l) (List.getD steps (Int.toNat i) Law20Step.zero).Address).snd == (0 : Int))) ∧ (Ob (((!bif
            bif !r20Same (accAdd (copied20 l) (List.getD steps (Int.toNat i) Law20Step.zero).Address).fst l then true
            else decide ((64 : Int) < (↑(List.length l) : Int)) then
          true
        else
          bif (accAdd (copied20 l) (List.getD steps (Int.toNat i) Law20Step.zero).Address).snd == (0 : Int) then
            !accHas (accAdd (copied20 l) (List.getD steps (Int.toNat i) Law20Step.zero).Address).fst []
                  (List.getD steps (Int.toNat i) Law20Step.zero).Address ==
                (List.getD steps (Int.toNat i) Law20Step.zero).Add
          else false) &&
      (accAdd (copied20 l) (List.getD steps (Int.toNat i) Law20Step.zero).Address).snd == (0 : Int)) =
    true →
  (0 : Int) ≤ i ∧ i < (↑(List.length steps) : Int)) ∧ (Ob (o3 ((!bif
        bif !r20Same (accAdd (copied20 l) (List.getD steps (Int.toNat i) Law20Step.zero).Address).fst l then true
        else decide ((64 : Int) < (↑(List.length l) : Int)) then
      true
    else
      bif (accAdd (copied20 l) (List.getD steps (Int.toNat i) Law20Step.zero).Address).snd == (0 : Int) then
        !accHas (accAdd (copied20 l) (List.getD steps (Int.toNat i) Law20Step.zero).Address).fst []
              (List.getD steps (Int.toNat i) Law20Step.zero).Address ==
            (List.getD steps (Int.toNat i) Law20Step.zero).Add
      else false) &&
  (accAdd (copied20 l) (List.getD steps (Int.toNat i) Law20Step.zero).Address).snd == (0 : Int))) ∧ (Ob (o3 ((!bif
        bif !r20Same (accAdd (copied20 l) (List.getD steps (Int.toNat i) Law20Step.zero).Address).fst l then true
        else decide ((64 : Int) < (↑(List.length l) : Int)) then
      true
    else
      bif (accAdd (copied20 l) (List.getD steps (Int.toNat i) Law20Step.zero).Address).snd == (0 : Int) then
        !accHas (accAdd (copied20 l) (List.getD steps (Int.toNat i) Law20Step.zero).Address).fst []
              (List.getD steps (Int.toNat i) Law20Step.zero).Address ==
            (List.getD steps (Int.toNat i) Law20Step.zero).Add
      else false) &&
  (accAdd (copied20 l) (List.getD steps (Int.toNat i) Law20Step.zero).Address).snd == (0 : Int))) ∧ (Ob (o3 ((!bif
        bif !r20Same (accAdd (copied20 l) (List.getD steps (Int.toNat i) Law20Step.zero).Address).fst l then true
        else decide ((64 : Int) < (↑(List.length l) : Int)) then
      true
    else
      bif (accAdd (copied20 l) (List.getD steps (Int.toNat i) Law20Step.zero).Address).snd == (0 : Int) then
        !accHas (accAdd (copied20 l) (List.getD steps (Int.toNat i) Law20Step.zero).Address).fst []
              (List.getD steps (Int.toNat i) Law20Step.zero).Address ==
            (List.getD steps (Int.toNat i) Law20Step.zero).Add
      else false) &&
  (accAdd (copied20 l) (List.getD steps (Int.toNat i) Law20Step.zero).Address).snd == (0 : Int))) ∧ (Ob (o3 ((!bif
        bif !r20Same (accAdd (copied20 l) (List.getD steps (Int.toNat i) Law20Step.zero).Address).fst l then true
        else decide ((64 : Int) < (↑(List.length l) : Int)) then
      true
    else
      bif (accAdd (copied20 l) (List.getD steps (Int.toNat i) Law20Step.zero).Address).snd == (0 : Int) then
        !accHas (accAdd (copied20 l) (List.getD steps (Int.toNat i) Law20Step.zero).Address).fst []
              (List.getD steps (Int.toNat i) Law20Step.zero).Address ==
            (List.getD steps (Int.toNat i) Law20Step.zero).Add
      else false) &&
  (accAdd (copied20 l) (List.getD steps (Int.toNat i) Law20Step.zero).Address).snd == (0 : Int))) ∧ (Ob (o2 (!bif
      bif !r20Same (accAdd (copied20 l) (List.getD steps (Int.toNat i) Law20Step.zero).Address).fst l then true
      else decide ((64 : Int) < (↑(List.length l) : Int)) then
    true
  else
    bif (accAdd (copied20 l) (List.getD steps (Int.toNat i) Law20Step.zero).Address).snd == (0 : Int) then
      !accHas (accAdd (copied20 l) (List.getD steps (Int.toNat i) Law20Step.zero).Address).fst []
            (List.getD steps (Int.toNat i) Law20Step.zero).Address ==
          (List.getD steps (Int.toNat i) Law20Step.zero).Add
    else false)) ∧ (Ob ((!bif
          bif !r20Same (accAdd (copied20 l) (List.getD steps (Int.toNat i) Law20Step.zero).Address).fst l then true
          else decide ((64 : Int) < (↑(List.length l) : Int)) then
        true
      else
        bif (accAdd (copied20 l) (List.getD steps (Int.toNat i) Law20Step.zero).Address).snd == (0 : Int) then
          !accHas (accAdd (copied20 l) (List.getD steps (Int.toNat i) Law20Step.zero).Address).fst []
                (List.getD steps (Int.toNat i) Law20Step.zero).Address ==
              (List.getD steps (Int.toNat i) Law20Step.zero).Add
        else false) =
    true →
  ((accAdd (copied20 l) (List.getD steps (Int.toNat i) Law20Step.zero).Address).snd == (0 : Int)) = true →
    ((!bif
              bif !r20Same (accAdd (copied20 l) (List.getD steps (Int.toNat i) Law20Step.zero).Address).fst l then true
              else decide ((64 : Int) < (↑(List.length l) : Int)) then
            true
          else
            bif (accAdd (copied20 l) (List.getD steps (Int.toNat i) Law20Step.zero).Address).snd == (0 : Int) then
              !accHas (accAdd (copied20 l) (List.getD steps (Int.toNat i) Law20Step.zero).Address).fst []
                    (List.getD steps (Int.toNat i) Law20Step.zero).Address ==
                  (List.getD steps (Int.toNat i) Law20Step.zero).Add
            else false) &&
        (accAdd (copied20 l) (List.getD steps (Int.toNat i) Law20Step.zero).Address).snd == (0 : Int)) =
      true) ∧ (Ob (on (bif
    bif !r20Same (accAdd (copied20 l) (List.getD steps (Int.toNat i) Law20Step.zero).Address).fst l then true
    else decide ((64 : Int) < (↑(List.length l) : Int)) then
  true
else
  bif (accAdd (copied20 l) (List.getD steps (Int.toNat i) Law20Step.zero).Address).snd == (0 : Int) then
    !accHas (accAdd (copied20 l) (List.getD steps (Int.toNat i) Law20Step.zero).Address).fst []
          (List.getD steps (Int.toNat i) Law20Step.zero).Address ==
        (List.getD steps (Int.toNat i) Law20Step.zero).Add
  else false)) ∧ (cond (bif
    bif
        bif !r20Same (accAdd (copied20 l) (List.getD steps (Int.toNat i) Law20Step.zero).Address).fst l then true
        else decide ((64 : Int) < (↑(List.length l) : Int)) then
      true
    else
      bif (accAdd (copied20 l) (List.getD steps (Int.toNat i) Law20Step.zero).Address).snd == (0 : Int) then
        !accHas (accAdd (copied20 l) (List.getD steps (Int.toNat i) Law20Step.zero).Address).fst []
              (List.getD steps (Int.toNat i) Law20Step.zero).Address ==
            (List.getD steps (Int.toNat i) Law20Step.zero).Add
      else false then
  true
else
  bif (accAdd (copied20 l) (List.getD steps (Int.toNat i) Law20Step.zero).Address).snd == (0 : Int) then
    r20Element (copied20 l) (List.getD steps (Int.toNat i) Law20Step.zero).Address ==
      (List.getD steps (Int.toNat i) Law20Step.zero).Add
  else false) (K (.v (.bool (false))) [.row 25 (l : List (El 25)), .cells [.v (.int .i64 ((List.getD steps (Int.toNat i) Law20Step.zero).Address.Kind)), .v (.int .u64 ((List.getD steps (Int.toNat i) Law20Step.zero).Address.Bits))], .row 25 (copied20 l : List (El 25))]) (J (acceptLists.hd steps (IntKind.wrap IntKind.i64 (i + (1 : Int))) (l)))))))))))))))))))))))))))))))))))))) (Ob (List.length l ≤ (4611686018427 : Nat)) ∧ (Ob (List.length (copied20 l) ≤ (4611686018427 : Nat)) ∧ (cond ((accRemove (copied20 l) (List.getD steps (Int.toNat i) Law20Step.zero).Address).snd == (0 : Int)) (Ob (List.length l ≤ (4611686018427 : Nat)) ∧ (Ob (o3 (!!r20Same (accRemove (copied20 l) (List.getD steps (Int.toNat i) Law20Step.zero).Address).fst
      (without l (List.getD steps (Int.toNat i) Law20Step.zero).Address))) ∧ (Ob (o3 (!!r20Same (accRemove (copied20 l) (List.getD steps (Int.toNat i) Law20Step.zero).Address).fst
      (without l (List.getD steps (Int.toNat i) Law20Step.zero).Address))) ∧ (Ob (on (!r20Same (accRemove (copied20 l) (List.getD steps (Int.toNat i) Law20Step.zero).Address).fst
    (without l (List.getD steps (Int.toNat i) Law20Step.zero).Address))) ∧ (Ob (o3 (!bif
      !r20Same (accRemove (copied20 l) (List.getD steps (Int.toNat i) Law20Step.zero).Address).fst
          (without l (List.getD steps (Int.toNat i) Law20Step.zero).Address) then
    true
  else decide ((64 : Int) < (↑(List.length (without l (List.getD steps (Int.toNat i) Law20Step.zero).Address)) : Int)))) ∧ (Ob (o3 (!bif
      !r20Same (accRemove (copied20 l) (List.getD steps (Int.toNat i) Law20Step.zero).Address).fst
          (without l (List.getD steps (Int.toNat i) Law20Step.zero).Address) then
    true
  else decide ((64 : Int) < (↑(List.length (without l (List.getD steps (Int.toNat i) Law20Step.zero).Address)) : Int)))) ∧ (Ob (o3 ((!bif
        !r20Same (accRemove (copied20 l) (List.getD steps (Int.toNat i) Law20Step.zero).Address).fst
            (without l (List.getD steps (Int.toNat i) Law20Step.zero).Address) then
      true
    else
      decide
        ((64 : Int) < (↑(List.length (without l (List.getD steps (Int.toNat i) Law20Step.zero).Address)) : Int))) &&
  (accRemove (copied20 l) (List.getD steps (Int.toNat i) Law20Step.zero).Address).snd == (0 : Int))) ∧ (Ob (o3 ((!bif
        !r20Same (accRemove (copied20 l) (List.getD steps (Int.toNat i) Law20Step.zero).Address).fst
            (without l (List.getD steps (Int.toNat i) Law20Step.zero).Address) then
      true
    else
      decide
        ((64 : Int) < (↑(List.length (without l (List.getD steps (Int.toNat i) Law20Step.zero).Address)) : Int))) &&
  (accRemove (copied20 l) (List.getD steps (Int.toNat i) Law20Step.zero).Address).snd == (0 : Int))) ∧ (Ob (o3 ((!bif
        !r20Same (accRemove (copied20 l) (List.getD steps (Int.toNat i) Law20Step.zero).Address).fst
            (without l (List.getD steps (Int.toNat i) Law20Step.zero).Address) then
      true
    else
      decide
        ((64 : Int) < (↑(List.length (without l (List.getD steps (Int.toNat i) Law20Step.zero).Address)) : Int))) &&
  (accRemove (copied20 l) (List.getD steps (Int.toNat i) Law20Step.zero).Address).snd == (0 : Int))) ∧ (Ob (o3 ((!bif
        !r20Same (accRemove (copied20 l) (List.getD steps (Int.toNat i) Law20Step.zero).Address).fst
            (without l (List.getD steps (Int.toNat i) Law20Step.zero).Address) then
      true
    else
      decide
        ((64 : Int) < (↑(List.length (without l (List.getD steps (Int.toNat i) Law20Step.zero).Address)) : Int))) &&
  (accRemove (copied20 l) (List.getD steps (Int.toNat i) Law20Step.zero).Address).snd == (0 : Int))) ∧ (Ob (((!bif
            !r20Same (accRemove (copied20 l) (List.getD steps (Int.toNat i) Law20Step.zero).Address).fst
                (without l (List.getD steps (Int.toNat i) Law20Step.zero).Address) then
          true
        else
          decide
            ((64 : Int) < (↑(List.length (without l (List.getD steps (Int.toNat i) Law20Step.zero).Address)) : Int))) &&
      (accRemove (copied20 l) (List.getD steps (Int.toNat i) Law20Step.zero).Address).snd == (0 : Int)) =
    true →
  (0 : Int) ≤ i ∧ i < (↑(List.length steps) : Int)) ∧ (Ob (o3 ((!bif
        !r20Same (accRemove (copied20 l) (List.getD steps (Int.toNat i) Law20Step.zero).Address).fst
            (without l (List.getD steps (Int.toNat i) Law20Step.zero).Address) then
      true
    else
      decide
        ((64 : Int) < (↑(List.length (without l (List.getD steps (Int.toNat i) Law20Step.zero).Address)) : Int))) &&
  (accRemove (copied20 l) (List.getD steps (Int.toNat i) Law20Step.zero).Address).snd == (0 : Int))) ∧ (Ob (o3 ((!bif
        !r20Same (accRemove (copied20 l) (List.getD steps (Int.toNat i) Law20Step.zero).Address).fst
            (without l (List.getD steps (Int.toNat i) Law20Step.zero).Address) then
      true
    else
      decide
        ((64 : Int) < (↑(List.length (without l (List.getD steps (Int.toNat i) Law20Step.zero).Address)) : Int))) &&
  (accRemove (copied20 l) (List.getD steps (Int.toNat i) Law20Step.zero).Address).snd == (0 : Int))) ∧ (Ob (o3 ((!bif
        !r20Same (accRemove (copied20 l) (List.getD steps (Int.toNat i) Law20Step.zero).Address).fst
            (without l (List.getD steps (Int.toNat i) Law20Step.zero).Address) then
      true
    else
      decide
        ((64 : Int) < (↑(List.length (without l (List.getD steps (Int.toNat i) Law20Step.zero).Address)) : Int))) &&
  (accRemove (copied20 l) (List.getD steps (Int.toNat i) Law20Step.zero).Address).snd == (0 : Int))) ∧ (Ob (o3 ((!bif
        !r20Same (accRemove (copied20 l) (List.getD steps (Int.toNat i) Law20Step.zero).Address).fst
            (without l (List.getD steps (Int.toNat i) Law20Step.zero).Address) then
      true
    else
      decide
        ((64 : Int) < (↑(List.length (without l (List.getD steps (Int.toNat i) Law20Step.zero).Address)) : Int))) &&
  (accRemove (copied20 l) (List.getD steps (Int.toNat i) Law20Step.zero).Address).snd == (0 : Int))) ∧ (Ob (o2 (!bif
      !r20Same (accRemove (copied20 l) (List.getD steps (Int.toNat i) Law20Step.zero).Address).fst
          (without l (List.getD steps (Int.toNat i) Law20Step.zero).Address) then
    true
  else decide ((64 : Int) < (↑(List.length (without l (List.getD steps (Int.toNat i) Law20Step.zero).Address)) : Int)))) ∧ (Ob ((!bif
          !r20Same (accRemove (copied20 l) (List.getD steps (Int.toNat i) Law20Step.zero).Address).fst
              (without l (List.getD steps (Int.toNat i) Law20Step.zero).Address) then
        true
      else
        decide
          ((64 : Int) < (↑(List.length (without l (List.getD steps (Int.toNat i) Law20Step.zero).Address)) : Int))) =
    true →
  ((accRemove (copied20 l) (List.getD steps (Int.toNat i) Law20Step.zero).Address).snd == (0 : Int)) = true →
    ((!bif
              !r20Same (accRemove (copied20 l) (List.getD steps (Int.toNat i) Law20Step.zero).Address).fst
                  (without l (List.getD steps (Int.toNat i) Law20Step.zero).Address) then
            true
          else
            decide
              ((64 : Int) <
                (↑(List.length (without l (List.getD steps (Int.toNat i) Law20Step.zero).Address)) : Int))) &&
        (accRemove (copied20 l) (List.getD steps (Int.toNat i) Law20Step.zero).Address).snd == (0 : Int)) =
      true) ∧ (Ob (on (bif
    !r20Same (accRemove (copied20 l) (List.getD steps (Int.toNat i) Law20Step.zero).Address).fst
        (without l (List.getD steps (Int.toNat i) Law20Step.zero).Address) then
  true
else decide ((64 : Int) < (↑(List.length (without l (List.getD steps (Int.toNat i) Law20Step.zero).Address)) : Int)))) ∧ (Ob (o3 (!bif
      bif
          !r20Same (accRemove (copied20 l) (List.getD steps (Int.toNat i) Law20Step.zero).Address).fst
              (without l (List.getD steps (Int.toNat i) Law20Step.zero).Address) then
        true
      else
        decide
          ((64 : Int) < (↑(List.length (without l (List.getD steps (Int.toNat i) Law20Step.zero).Address)) : Int)) then
    true
  else
    bif (accRemove (copied20 l) (List.getD steps (Int.toNat i) Law20Step.zero).Address).snd == (0 : Int) then
      !accHas (accRemove (copied20 l) (List.getD steps (Int.toNat i) Law20Step.zero).Address).fst []
            (List.getD steps (Int.toNat i) Law20Step.zero).Address ==
          (List.getD steps (Int.toNat i) Law20Step.zero).Add
    else false)) ∧ (Ob (o3 (!bif
      bif
          !r20Same (accRemove (copied20 l) (List.getD steps (Int.toNat i) Law20Step.zero).Address).fst
              (without l (List.getD steps (Int.toNat i) Law20Step.zero).Address) then
        true
      else
        decide
          ((64 : Int) < (↑(List.length (without l (List.getD steps (Int.toNat i) Law20Step.zero).Address)) : Int)) then
    true
  else
    bif (accRemove (copied20 l) (List.getD steps (Int.toNat i) Law20Step.zero).Address).snd == (0 : Int) then
      !accHas (accRemove (copied20 l) (List.getD steps (Int.toNat i) Law20Step.zero).Address).fst []
            (List.getD steps (Int.toNat i) Law20Step.zero).Address ==
          (List.getD steps (Int.toNat i) Law20Step.zero).Add
    else false)) ∧ (Ob (o3 ((!bif
        bif
            !r20Same (accRemove (copied20 l) (List.getD steps (Int.toNat i) Law20Step.zero).Address).fst
                (without l (List.getD steps (Int.toNat i) Law20Step.zero).Address) then
          true
        else
          decide
            ((64 : Int) <
              (↑(List.length (without l (List.getD steps (Int.toNat i) Law20Step.zero).Address)) : Int)) then
      true
    else
      bif (accRemove (copied20 l) (List.getD steps (Int.toNat i) Law20Step.zero).Address).snd == (0 : Int) then
        !accHas (accRemove (copied20 l) (List.getD steps (Int.toNat i) Law20Step.zero).Address).fst []
              (List.getD steps (Int.toNat i) Law20Step.zero).Address ==
            (List.getD steps (Int.toNat i) Law20Step.zero).Add
      else false) &&
  (accRemove (copied20 l) (List.getD steps (Int.toNat i) Law20Step.zero).Address).snd == (0 : Int))) ∧ (Ob (o3 ((!bif
        bif
            !r20Same (accRemove (copied20 l) (List.getD steps (Int.toNat i) Law20Step.zero).Address).fst
                (without l (List.getD steps (Int.toNat i) Law20Step.zero).Address) then
          true
        else
          decide
            ((64 : Int) <
              (↑(List.length (without l (List.getD steps (Int.toNat i) Law20Step.zero).Address)) : Int)) then
      true
    else
      bif (accRemove (copied20 l) (List.getD steps (Int.toNat i) Law20Step.zero).Address).snd == (0 : Int) then
        !accHas (accRemove (copied20 l) (List.getD steps (Int.toNat i) Law20Step.zero).Address).fst []
              (List.getD steps (Int.toNat i) Law20Step.zero).Address ==
            (List.getD steps (Int.toNat i) Law20Step.zero).Add
      else false) &&
  (accRemove (copied20 l) (List.getD steps (Int.toNat i) Law20Step.zero).Address).snd == (0 : Int))) ∧ (Ob (o3 ((!bif
        bif
            !r20Same (accRemove (copied20 l) (List.getD steps (Int.toNat i) Law20Step.zero).Address).fst
                (without l (List.getD steps (Int.toNat i) Law20Step.zero).Address) then
          true
        else
          decide
            ((64 : Int) <
              (↑(List.length (without l (List.getD steps (Int.toNat i) Law20Step.zero).Address)) : Int)) then
      true
    else
      bif (accRemove (copied20 l) (List.getD steps (Int.toNat i) Law20Step.zero).Address).snd == (0 : Int) then
        !accHas (accRemove (copied20 l) (List.getD steps (Int.toNat i) Law20Step.zero).Address).fst []
              (List.getD steps (Int.toNat i) Law20Step.zero).Address ==
            (List.getD steps (Int.toNat i) Law20Step.zero).Add
      else false) &&
  (accRemove (copied20 l) (List.getD steps (Int.toNat i) Law20Step.zero).Address).snd == (0 : Int))) ∧ (Ob (o3 ((!bif
        bif
            !r20Same (accRemove (copied20 l) (List.getD steps (Int.toNat i) Law20Step.zero).Address).fst
                (without l (List.getD steps (Int.toNat i) Law20Step.zero).Address) then
          true
        else
          decide
            ((64 : Int) <
              (↑(List.length (without l (List.getD steps (Int.toNat i) Law20Step.zero).Address)) : Int)) then
      true
    else
      bif (accRemove (copied20 l) (List.getD steps (Int.toNat i) Law20Step.zero).Address).snd == (0 : Int) then
        !accHas (accRemove (copied20 l) (List.getD steps (Int.toNat i) Law20Step.zero).Address).fst []
              (List.getD steps (Int.toNat i) Law20Step.zero).Address ==
            (List.getD steps (Int.toNat i) Law20Step.zero).Add
      else false) &&
  (accRemove (copied20 l) (List.getD steps (Int.toNat i) Law20Step.zero).Address).snd == (0 : Int))) ∧ (Ob (((!bif
            bif
                !r20Same (accRemove (copied20 l) (List.getD steps (Int.toNat i) Law20Step.zero).Address).fst
                    (without l (List.getD steps (Int.toNat i) Law20Step.zero).Address) then
              true
            else
              decide
                ((64 : Int) <
                  (↑(List.length (without l (List.getD steps (Int.toNat i) Law20Step.zero).Address)) : Int)) then
          true
        else
          bif (accRemove (copied20 l) (List.getD steps (Int.toNat i) Law20Step.zero).Address).snd == (0 : Int) then
            !accHas (accRemove (copied20 l) (List.getD steps (Int.toNat i) Law20Step.zero).Address).fst []
                  (List.getD steps (Int.toNat i) Law20Step.zero).Address ==
                (List.getD steps (Int.toNat i) Law20Step.zero).Add
          else false) &&
      (accRemove (copied20 l) (List.getD steps (Int.toNat i) Law20Step.zero).Address).snd == (0 : Int)) =
    true →
  (0 : Int) ≤ i ∧ i < (↑(List.length steps) : Int)) ∧ (Ob (o3 ((!bif
        bif
            !r20Same (accRemove (copied20 l) (List.getD steps (Int.toNat i) Law20Step.zero).Address).fst
                (without l (List.getD steps (Int.toNat i) Law20Step.zero).Address) then
          true
        else
          decide
            ((64 : Int) <
              (↑(List.length (without l (List.getD steps (Int.toNat i) Law20Step.zero).Address)) : Int)) then
      true
    else
      bif (accRemove (copied20 l) (List.getD steps (Int.toNat i) Law20Step.zero).Address).snd == (0 : Int) then
        !accHas (accRemove (copied20 l) (List.getD steps (Int.toNat i) Law20Step.zero).Address).fst []
              (List.getD steps (Int.toNat i) Law20Step.zero).Address ==
            (List.getD steps (Int.toNat i) Law20Step.zero).Add
      else false) &&
  (accRemove (copied20 l) (List.getD steps (Int.toNat i) Law20Step.zero).Address).snd == (0 : Int))) ∧ (Ob (o3 ((!bif
        bif
            !r20Same (accRemove (copied20 l) (List.getD steps (Int.toNat i) Law20Step.zero).Address).fst
                (without l (List.getD steps (Int.toNat i) Law20Step.zero).Address) then
          true
        else
          decide
            ((64 : Int) <
              (↑(List.length (without l (List.getD steps (Int.toNat i) Law20Step.zero).Address)) : Int)) then
      true
    else
      bif (accRemove (copied20 l) (List.getD steps (Int.toNat i) Law20Step.zero).Address).snd == (0 : Int) then
        !accHas (accRemove (copied20 l) (List.getD steps (Int.toNat i) Law20Step.zero).Address).fst []
              (List.getD steps (Int.toNat i) Law20Step.zero).Address ==
            (List.getD steps (Int.toNat i) Law20Step.zero).Add
      else false) &&
  (accRemove (copied20 l) (List.getD steps (Int.toNat i) Law20Step.zero).Address).snd == (0 : Int))) ∧ (Ob (o3 ((!bif
        bif
            !r20Same (accRemove (copied20 l) (List.getD steps (Int.toNat i) Law20Step.zero).Address).fst
                (without l (List.getD steps (Int.toNat i) Law20Step.zero).Address) then
          true
        else
          decide
            ((64 : Int) <
              (↑(List.length (without l (List.getD steps (Int.toNat i) Law20Step.zero).Address)) : Int)) then
      true
    else
      bif (accRemove (copied20 l) (List.getD steps (Int.toNat i) Law20Step.zero).Address).snd == (0 : Int) then
        !accHas (accRemove (copied20 l) (List.getD steps (Int.toNat i) Law20Step.zero).Address).fst []
              (List.getD steps (Int.toNat i) Law20Step.zero).Address ==
            (List.getD steps (Int.toNat i) Law20Step.zero).Add
      else false) &&
  (accRemove (copied20 l) (List.getD steps (Int.toNat i) Law20Step.zero).Address).snd == (0 : Int))) ∧ (Ob (o3 ((!bif
        bif
            !r20Same (accRemove (copied20 l) (List.getD steps (Int.toNat i) Law20Step.zero).Address).fst
                (without l (List.getD steps (Int.toNat i) Law20Step.zero).Address) then
          true
        else
          decide
            ((64 : Int) <
              (↑(List.length (without l (List.getD steps (Int.toNat i) Law20Step.zero).Address)) : Int)) then
      true
    else
      bif (accRemove (copied20 l) (List.getD steps (Int.toNat i) Law20Step.zero).Address).snd == (0 : Int) then
        !accHas (accRemove (copied20 l) (List.getD steps (Int.toNat i) Law20Step.zero).Address).fst []
              (List.getD steps (Int.toNat i) Law20Step.zero).Address ==
            (List.getD steps (Int.toNat i) Law20Step.zero).Add
      else false) &&
  (accRemove (copied20 l) (List.getD steps (Int.toNat i) Law20Step.zero).Address).snd == (0 : Int))) ∧ (Ob (o2 (!bif
      bif
          !r20Same (accRemove (copied20 l) (List.getD steps (Int.toNat i) Law20Step.zero).Address).fst
              (without l (List.getD steps (Int.toNat i) Law20Step.zero).Address) then
        true
      else
        decide
          ((64 : Int) < (↑(List.length (without l (List.getD steps (Int.toNat i) Law20Step.zero).Address)) : Int)) then
    true
  else
    bif (accRemove (copied20 l) (List.getD steps (Int.toNat i) Law20Step.zero).Address).snd == (0 : Int) then
      !accHas (accRemove (copied20 l) (List.getD steps (Int.toNat i) Law20Step.zero).Address).fst []
            (List.getD steps (Int.toNat i) Law20Step.zero).Address ==
          (List.getD steps (Int.toNat i) Law20Step.zero).Add
    else false)) ∧ (Ob ((!bif
          bif
              !r20Same (accRemove (copied20 l) (List.getD steps (Int.toNat i) Law20Step.zero).Address).fst
                  (without l (List.getD steps (Int.toNat i) Law20Step.zero).Address) then
            true
          else
            decide
              ((64 : Int) <
                (↑(List.length (without l (List.getD steps (Int.toNat i) Law20Step.zero).Address)) : Int)) then
        true
      else
        bif (accRemove (copied20 l) (List.getD steps (Int.toNat i) Law20Step.zero).Address).snd == (0 : Int) then
          !accHas (accRemove (copied20 l) (List.getD steps (Int.toNat i) Law20Step.zero).Address).fst []
                (List.getD steps (Int.toNat i) Law20Step.zero).Address ==
              (List.getD steps (Int.toNat i) Law20Step.zero).Add
        else false) =
    true →
  ((accRemove (copied20 l) (List.getD steps (Int.toNat i) Law20Step.zero).Address).snd == (0 : Int)) = true →
    ((!bif
              bif
                  !r20Same (accRemove (copied20 l) (List.getD steps (Int.toNat i) Law20Step.zero).Address).fst
                      (without l (List.getD steps (Int.toNat i) Law20Step.zero).Address) then
                true
              else
                decide
                  ((64 : Int) <
                    (↑(List.length (without l (List.getD steps (Int.toNat i) Law20Step.zero).Address)) : Int)) then
            true
          else
            bif (accRemove (copied20 l) (List.getD steps (Int.toNat i) Law20Step.zero).Address).snd == (0 : Int) then
              !accHas (accRemove (copied20 l) (List.getD steps (Int.toNat i) Law20Step.zero).Address).fst []
                    (List.getD steps (Int.toNat i) Law20Step.zero).Address ==
                  (List.getD steps (Int.toNat i) Law20Step.zero).Add
            else false) &&
        (accRemove (copied20 l) (List.getD steps (Int.toNat i) Law20Step.zero).Address).snd == (0 : Int)) =
      true) ∧ (Ob (on (bif
    bif
        !r20Same (accRemove (copied20 l) (List.getD steps (Int.toNat i) Law20Step.zero).Address).fst
            (without l (List.getD steps (Int.toNat i) Law20Step.zero).Address) then
      true
    else
      decide
        ((64 : Int) < (↑(List.length (without l (List.getD steps (Int.toNat i) Law20Step.zero).Address)) : Int)) then
  true
else
  bif (accRemove (copied20 l) (List.getD steps (Int.toNat i) Law20Step.zero).Address).snd == (0 : Int) then
    !accHas (accRemove (copied20 l) (List.getD steps (Int.toNat i) Law20Step.zero).Address).fst []
          (List.getD steps (Int.toNat i) Law20Step.zero).Address ==
        (List.getD steps (Int.toNat i) Law20Step.zero).Add
  else false)) ∧ (cond (bif
    bif
        bif
            !r20Same (accRemove (copied20 l) (List.getD steps (Int.toNat i) Law20Step.zero).Address).fst
                (without l (List.getD steps (Int.toNat i) Law20Step.zero).Address) then
          true
        else
          decide
            ((64 : Int) <
              (↑(List.length (without l (List.getD steps (Int.toNat i) Law20Step.zero).Address)) : Int)) then
      true
    else
      bif (accRemove (copied20 l) (List.getD steps (Int.toNat i) Law20Step.zero).Address).snd == (0 : Int) then
        !accHas (accRemove (copied20 l) (List.getD steps (Int.toNat i) Law20Step.zero).Address).fst []
              (List.getD steps (Int.toNat i) Law20Step.zero).Address ==
            (List.getD steps (Int.toNat i) Law20Step.zero).Add
      else false then
  true
else
  bif (accRemove (copied20 l) (List.getD steps (Int.toNat i) Law20Step.zero).Address).snd == (0 : Int) then
    r20Element (copied20 l) (List.getD steps (Int.toNat i) Law20Step.zero).Address ==
      (List.getD steps (Int.toNat i) Law20Step.zero).Add
  else false) (K (.v (.bool (false))) [.row 25 (l : List (El 25)), .cells [.v (.int .i64 ((List.getD steps (Int.toNat i) Law20Step.zero).Address.Kind)), .v (.int .u64 ((List.getD steps (Int.toNat i) Law20Step.zero).Address.Bits))], .row 25 (copied20 l : List (El 25)), .row 25 (without l (List.getD steps (Int.toNat i) Law20Step.zero).Address : List (El 25))]) (J (acceptLists.hd steps (IntKind.wrap IntKind.i64 (i + (1 : Int))) (without l (List.getD steps (Int.toNat i) Law20Step.zero).Address)))))))))))))))))))))))))))))))))))) (Ob (o3 (!!r20Same (accRemove (copied20 l) (List.getD steps (Int.toNat i) Law20Step.zero).Address).fst l)) ∧ (Ob (o3 (!!r20Same (accRemove (copied20 l) (List.getD steps (Int.toNat i) Law20Step.zero).Address).fst l)) ∧ (Ob (on (!r20Same (accRemove (copied20 l) (List.getD steps (Int.toNat i) Law20Step.zero).Address).fst l)) ∧ (Ob (o3 (!bif !r20Same (accRemove (copied20 l) (List.getD steps (Int.toNat i) Law20Step.zero).Address).fst l then true
  else decide ((64 : Int) < (↑(List.length l) : Int)))) ∧ (Ob (o3 (!bif !r20Same (accRemove (copied20 l) (List.getD steps (Int.toNat i) Law20Step.zero).Address).fst l then true
  else decide ((64 : Int) < (↑(List.length l) : Int)))) ∧ (Ob (o3 ((!bif !r20Same (accRemove (copied20 l) (List.getD steps (Int.toNat i) Law20Step.zero).Address).fst l then true
    else decide ((64 : Int) < (↑(List.length l) : Int))) &&
  (accRemove (copied20 l) (List.getD steps (Int.toNat i) Law20Step.zero).Address).snd == (0 : Int))) ∧ (Ob (o3 ((!bif !r20Same (accRemove (copied20 l) (List.getD steps (Int.toNat i) Law20Step.zero).Address).fst l then true
    else decide ((64 : Int) < (↑(List.length l) : Int))) &&
  (accRemove (copied20 l) (List.getD steps (Int.toNat i) Law20Step.zero).Address).snd == (0 : Int))) ∧ (Ob (o3 ((!bif !r20Same (accRemove (copied20 l) (List.getD steps (Int.toNat i) Law20Step.zero).Address).fst l then true
    else decide ((64 : Int) < (↑(List.length l) : Int))) &&
  (accRemove (copied20 l) (List.getD steps (Int.toNat i) Law20Step.zero).Address).snd == (0 : Int))) ∧ (Ob (o3 ((!bif !r20Same (accRemove (copied20 l) (List.getD steps (Int.toNat i) Law20Step.zero).Address).fst l then true
    else decide ((64 : Int) < (↑(List.length l) : Int))) &&
  (accRemove (copied20 l) (List.getD steps (Int.toNat i) Law20Step.zero).Address).snd == (0 : Int))) ∧ (Ob (((!bif !r20Same (accRemove (copied20 l) (List.getD steps (Int.toNat i) Law20Step.zero).Address).fst l then true
        else decide ((64 : Int) < (↑(List.length l) : Int))) &&
      (accRemove (copied20 l) (List.getD steps (Int.toNat i) Law20Step.zero).Address).snd == (0 : Int)) =
    true →
  (0 : Int) ≤ i ∧ i < (↑(List.length steps) : Int)) ∧ (Ob (o3 ((!bif !r20Same (accRemove (copied20 l) (List.getD steps (Int.toNat i) Law20Step.zero).Address).fst l then true
    else decide ((64 : Int) < (↑(List.length l) : Int))) &&
  (accRemove (copied20 l) (List.getD steps (Int.toNat i) Law20Step.zero).Address).snd == (0 : Int))) ∧ (Ob (o3 ((!bif !r20Same (accRemove (copied20 l) (List.getD steps (Int.toNat i) Law20Step.zero).Address).fst l then true
    else decide ((64 : Int) < (↑(List.length l) : Int))) &&
  (accRemove (copied20 l) (List.getD steps (Int.toNat i) Law20Step.zero).Address).snd == (0 : Int))) ∧ (Ob (o3 ((!bif !r20Same (accRemove (copied20 l) (List.getD steps (Int.toNat i) Law20Step.zero).Address).fst l then true
    else decide ((64 : Int) < (↑(List.length l) : Int))) &&
  (accRemove (copied20 l) (List.getD steps (Int.toNat i) Law20Step.zero).Address).snd == (0 : Int))) ∧ (Ob (o3 ((!bif !r20Same (accRemove (copied20 l) (List.getD steps (Int.toNat i) Law20Step.zero).Address).fst l then true
    else decide ((64 : Int) < (↑(List.length l) : Int))) &&
  (accRemove (copied20 l) (List.getD steps (Int.toNat i) Law20Step.zero).Address).snd == (0 : Int))) ∧ (Ob (o2 (!bif !r20Same (accRemove (copied20 l) (List.getD steps (Int.toNat i) Law20Step.zero).Address).fst l then true
  else decide ((64 : Int) < (↑(List.length l) : Int)))) ∧ (Ob ((!bif !r20Same (accRemove (copied20 l) (List.getD steps (Int.toNat i) Law20Step.zero).Address).fst l then true
      else decide ((64 : Int) < (↑(List.length l) : Int))) =
    true →
  ((accRemove (copied20 l) (List.getD steps (Int.toNat i) Law20Step.zero).Address).snd == (0 : Int)) = true →
    ((!bif !r20Same (accRemove (copied20 l) (List.getD steps (Int.toNat i) Law20Step.zero).Address).fst l then true
          else decide ((64 : Int) < (↑(List.length l) : Int))) &&
        (accRemove (copied20 l) (List.getD steps (Int.toNat i) Law20Step.zero).Address).snd == (0 : Int)) =
      true) ∧ (Ob (on (bif !r20Same (accRemove (copied20 l) (List.getD steps (Int.toNat i) Law20Step.zero).Address).fst l then true
else decide ((64 : Int) < (↑(List.length l) : Int)))) ∧ (Ob (o3 (!bif
      bif !r20Same (accRemove (copied20 l) (List.getD steps (Int.toNat i) Law20Step.zero).Address).fst l then true
      else decide ((64 : Int) < (↑(List.length l) : Int)) then
    true
  else
    bif (accRemove (copied20 l) (List.getD steps (Int.toNat i) Law20Step.zero).Address).snd == (0 : Int) then
      !accHas (accRemove (copied20 l) (List.getD steps (Int.toNat i) Law20Step.zero).Address).fst []
            (List.getD steps (Int.toNat i) Law20Step.zero).Address ==
          (List.getD steps (Int.toNat i) Law20Step.zero).Add
    else false)) ∧ (Ob (o3 (!bif
      bif !r20Same (accRemove (copied20 l) (List.getD steps (Int.toNat i) Law20Step.zero).Address).fst l then true
      else decide ((64 : Int) < (↑(List.length l) : Int)) then
    true
  else
    bif (accRemove (copied20 l) (List.getD steps (Int.toNat i) Law20Step.zero).Address).snd == (0 : Int) then
      !accHas (accRemove (copied20 l) (List.getD steps (Int.toNat i) Law20Step.zero).Address).fst []
            (List.getD steps (Int.toNat i) Law20Step.zero).Address ==
          (List.getD steps (Int.toNat i) Law20Step.zero).Add
    else false)) ∧ (Ob (o3 ((!bif
        bif !r20Same (accRemove (copied20 l) (List.getD steps (Int.toNat i) Law20Step.zero).Address).fst l then true
        else decide ((64 : Int) < (↑(List.length l) : Int)) then
      true
    else
      bif (accRemove (copied20 l) (List.getD steps (Int.toNat i) Law20Step.zero).Address).snd == (0 : Int) then
        !accHas (accRemove (copied20 l) (List.getD steps (Int.toNat i) Law20Step.zero).Address).fst []
              (List.getD steps (Int.toNat i) Law20Step.zero).Address ==
            (List.getD steps (Int.toNat i) Law20Step.zero).Add
      else false) &&
  (accRemove (copied20 l) (List.getD steps (Int.toNat i) Law20Step.zero).Address).snd == (0 : Int))) ∧ (Ob (o3 ((!bif
        bif !r20Same (accRemove (copied20 l) (List.getD steps (Int.toNat i) Law20Step.zero).Address).fst l then true
        else decide ((64 : Int) < (↑(List.length l) : Int)) then
      true
    else
      bif (accRemove (copied20 l) (List.getD steps (Int.toNat i) Law20Step.zero).Address).snd == (0 : Int) then
        !accHas (accRemove (copied20 l) (List.getD steps (Int.toNat i) Law20Step.zero).Address).fst []
              (List.getD steps (Int.toNat i) Law20Step.zero).Address ==
            (List.getD steps (Int.toNat i) Law20Step.zero).Add
      else false) &&
  (accRemove (copied20 l) (List.getD steps (Int.toNat i) Law20Step.zero).Address).snd == (0 : Int))) ∧ (Ob (o3 ((!bif
        bif !r20Same (accRemove (copied20 l) (List.getD steps (Int.toNat i) Law20Step.zero).Address).fst l then true
        else decide ((64 : Int) < (↑(List.length l) : Int)) then
      true
    else
      bif (accRemove (copied20 l) (List.getD steps (Int.toNat i) Law20Step.zero).Address).snd == (0 : Int) then
        !accHas (accRemove (copied20 l) (List.getD steps (Int.toNat i) Law20Step.zero).Address).fst []
              (List.getD steps (Int.toNat i) Law20Step.zero).Address ==
            (List.getD steps (Int.toNat i) Law20Step.zero).Add
      else false) &&
  (accRemove (copied20 l) (List.getD steps (Int.toNat i) Law20Step.zero).Address).snd == (0 : Int))) ∧ (Ob (o3 ((!bif
        bif !r20Same (accRemove (copied20 l) (List.getD steps (Int.toNat i) Law20Step.zero).Address).fst l then true
        else decide ((64 : Int) < (↑(List.length l) : Int)) then
      true
    else
      bif (accRemove (copied20 l) (List.getD steps (Int.toNat i) Law20Step.zero).Address).snd == (0 : Int) then
        !accHas (accRemove (copied20 l) (List.getD steps (Int.toNat i) Law20Step.zero).Address).fst []
              (List.getD steps (Int.toNat i) Law20Step.zero).Address ==
            (List.getD steps (Int.toNat i) Law20Step.zero).Add
      else false) &&
  (accRemove (copied20 l) (List.getD steps (Int.toNat i) Law20Step.zero).Address).snd == (0 : Int))) ∧ (Ob (((!bif
            bif !r20Same (accRemove (copied20 l) (List.getD steps (Int.toNat i) Law20Step.zero).Address).fst l then true
            else decide ((64 : Int) < (↑(List.length l) : Int)) then
          true
        else
          bif (accRemove (copied20 l) (List.getD steps (Int.toNat i) Law20Step.zero).Address).snd == (0 : Int) then
            !accHas (accRemove (copied20 l) (List.getD steps (Int.toNat i) Law20Step.zero).Address).fst []
                  (List.getD steps (Int.toNat i) Law20Step.zero).Address ==
                (List.getD steps (Int.toNat i) Law20Step.zero).Add
          else false) &&
      (accRemove (copied20 l) (List.getD steps (Int.toNat i) Law20Step.zero).Address).snd == (0 : Int)) =
    true →
  (0 : Int) ≤ i ∧ i < (↑(List.length steps) : Int)) ∧ (Ob (o3 ((!bif
        bif !r20Same (accRemove (copied20 l) (List.getD steps (Int.toNat i) Law20Step.zero).Address).fst l then true
        else decide ((64 : Int) < (↑(List.length l) : Int)) then
      true
    else
      bif (accRemove (copied20 l) (List.getD steps (Int.toNat i) Law20Step.zero).Address).snd == (0 : Int) then
        !accHas (accRemove (copied20 l) (List.getD steps (Int.toNat i) Law20Step.zero).Address).fst []
              (List.getD steps (Int.toNat i) Law20Step.zero).Address ==
            (List.getD steps (Int.toNat i) Law20Step.zero).Add
      else false) &&
  (accRemove (copied20 l) (List.getD steps (Int.toNat i) Law20Step.zero).Address).snd == (0 : Int))) ∧ (Ob (o3 ((!bif
        bif !r20Same (accRemove (copied20 l) (List.getD steps (Int.toNat i) Law20Step.zero).Address).fst l then true
        else decide ((64 : Int) < (↑(List.length l) : Int)) then
      true
    else
      bif (accRemove (copied20 l) (List.getD steps (Int.toNat i) Law20Step.zero).Address).snd == (0 : Int) then
        !accHas (accRemove (copied20 l) (List.getD steps (Int.toNat i) Law20Step.zero).Address).fst []
              (List.getD steps (Int.toNat i) Law20Step.zero).Address ==
            (List.getD steps (Int.toNat i) Law20Step.zero).Add
      else false) &&
  (accRemove (copied20 l) (List.getD steps (Int.toNat i) Law20Step.zero).Address).snd == (0 : Int))) ∧ (Ob (o3 ((!bif
        bif !r20Same (accRemove (copied20 l) (List.getD steps (Int.toNat i) Law20Step.zero).Address).fst l then true
        else decide ((64 : Int) < (↑(List.length l) : Int)) then
      true
    else
      bif (accRemove (copied20 l) (List.getD steps (Int.toNat i) Law20Step.zero).Address).snd == (0 : Int) then
        !accHas (accRemove (copied20 l) (List.getD steps (Int.toNat i) Law20Step.zero).Address).fst []
              (List.getD steps (Int.toNat i) Law20Step.zero).Address ==
            (List.getD steps (Int.toNat i) Law20Step.zero).Add
      else false) &&
  (accRemove (copied20 l) (List.getD steps (Int.toNat i) Law20Step.zero).Address).snd == (0 : Int))) ∧ (Ob (o3 ((!bif
        bif !r20Same (accRemove (copied20 l) (List.getD steps (Int.toNat i) Law20Step.zero).Address).fst l then true
        else decide ((64 : Int) < (↑(List.length l) : Int)) then
      true
    else
      bif (accRemove (copied20 l) (List.getD steps (Int.toNat i) Law20Step.zero).Address).snd == (0 : Int) then
        !accHas (accRemove (copied20 l) (List.getD steps (Int.toNat i) Law20Step.zero).Address).fst []
              (List.getD steps (Int.toNat i) Law20Step.zero).Address ==
            (List.getD steps (Int.toNat i) Law20Step.zero).Add
      else false) &&
  (accRemove (copied20 l) (List.getD steps (Int.toNat i) Law20Step.zero).Address).snd == (0 : Int))) ∧ (Ob (o2 (!bif
      bif !r20Same (accRemove (copied20 l) (List.getD steps (Int.toNat i) Law20Step.zero).Address).fst l then true
      else decide ((64 : Int) < (↑(List.length l) : Int)) then
    true
  else
    bif (accRemove (copied20 l) (List.getD steps (Int.toNat i) Law20Step.zero).Address).snd == (0 : Int) then
      !accHas (accRemove (copied20 l) (List.getD steps (Int.toNat i) Law20Step.zero).Address).fst []
            (List.getD steps (Int.toNat i) Law20Step.zero).Address ==
          (List.getD steps (Int.toNat i) Law20Step.zero).Add
    else false)) ∧ (Ob ((!bif
          bif !r20Same (accRemove (copied20 l) (List.getD steps (Int.toNat i) Law20Step.zero).Address).fst l then true
          else decide ((64 : Int) < (↑(List.length l) : Int)) then
        true
      else
        bif (accRemove (copied20 l) (List.getD steps (Int.toNat i) Law20Step.zero).Address).snd == (0 : Int) then
          !accHas (accRemove (copied20 l) (List.getD steps (Int.toNat i) Law20Step.zero).Address).fst []
                (List.getD steps (Int.toNat i) Law20Step.zero).Address ==
              (List.getD steps (Int.toNat i) Law20Step.zero).Add
        else false) =
    true →
  ((accRemove (copied20 l) (List.getD steps (Int.toNat i) Law20Step.zero).Address).snd == (0 : Int)) = true →
    ((!bif
              bif !r20Same (accRemove (copied20 l) (List.getD steps (Int.toNat i) Law20Step.zero).Address).fst l then
                true
              else decide ((64 : Int) < (↑(List.length l) : Int)) then
            true
          else
            bif (accRemove (copied20 l) (List.getD steps (Int.toNat i) Law20Step.zero).Address).snd == (0 : Int) then
              !accHas (accRemove (copied20 l) (List.getD steps (Int.toNat i) Law20Step.zero).Address).fst []
                    (List.getD steps (Int.toNat i) Law20Step.zero).Address ==
                  (List.getD steps (Int.toNat i) Law20Step.zero).Add
            else false) &&
        (accRemove (copied20 l) (List.getD steps (Int.toNat i) Law20Step.zero).Address).snd == (0 : Int)) =
      true) ∧ (Ob (on (bif
    bif !r20Same (accRemove (copied20 l) (List.getD steps (Int.toNat i) Law20Step.zero).Address).fst l then true
    else decide ((64 : Int) < (↑(List.length l) : Int)) then
  true
else
  bif (accRemove (copied20 l) (List.getD steps (Int.toNat i) Law20Step.zero).Address).snd == (0 : Int) then
    !accHas (accRemove (copied20 l) (List.getD steps (Int.toNat i) Law20Step.zero).Address).fst []
          (List.getD steps (Int.toNat i) Law20Step.zero).Address ==
        (List.getD steps (Int.toNat i) Law20Step.zero).Add
  else false)) ∧ (cond (bif
    bif
        bif !r20Same (accRemove (copied20 l) (List.getD steps (Int.toNat i) Law20Step.zero).Address).fst l then true
        else decide ((64 : Int) < (↑(List.length l) : Int)) then
      true
    else
      bif (accRemove (copied20 l) (List.getD steps (Int.toNat i) Law20Step.zero).Address).snd == (0 : Int) then
        !accHas (accRemove (copied20 l) (List.getD steps (Int.toNat i) Law20Step.zero).Address).fst []
              (List.getD steps (Int.toNat i) Law20Step.zero).Address ==
            (List.getD steps (Int.toNat i) Law20Step.zero).Add
      else false then
  true
else
  bif (accRemove (copied20 l) (List.getD steps (Int.toNat i) Law20Step.zero).Address).snd == (0 : Int) then
    r20Element (copied20 l) (List.getD steps (Int.toNat i) Law20Step.zero).Address ==
      (List.getD steps (Int.toNat i) Law20Step.zero).Add
  else false) (K (.v (.bool (false))) [.row 25 (l : List (El 25)), .cells [.v (.int .i64 ((List.getD steps (Int.toNat i) Law20Step.zero).Address.Kind)), .v (.int .u64 ((List.getD steps (Int.toNat i) Law20Step.zero).Address.Bits))], .row 25 (copied20 l : List (El 25))]) (J (acceptLists.hd steps (IntKind.wrap IntKind.i64 (i + (1 : Int))) (l)))))))))))))))))))))))))))))))))))))))))) (K (.v (.bool (true))) [.row 25 (l : List (El 25))]))
theorem acceptLists.st_ok (steps : List Law20Step) (i : Int) (l : List Address) (J : St El → Prop) (K : AV El → List (AObj El) → Prop) : evCode (mkCxI Tryd.prog S tab_acceptPolicies 0 true sum_dDel) (evFun (mkCxI Tryd.prog S tab_acceptPolicies 0 true sum_dDel) 3) (loopB Tryd.prog 7 [true, true, true, true, false, true, false]) (acceptLists.hd steps i l) (roundK (C := (mkCxI Tryd.prog S tab_acceptPolicies 0 true sum_dDel)) [4, 3, 0] [] J (loopK (mkCxI Tryd.prog S tab_acceptPolicies 0 true sum_dDel) 3 7 [true, true, true, true, false, true, false] K)) = acceptLists.st steps i l J K := by kernel_rfl
def acceptLists.rng (steps : List Law20Step) (n0 : Nat) (i : Int) (l : List Address) : Prop := 0 ≤ i ∧ i ≤ steps.length ∧ (steps.length - i).toNat < n0 ∧ steps.length ≤ 100 ∧ l.length ≤ i
theorem acceptLists.lp (steps : List Law20Step) (v : Bool) (n0 : Nat) (i : Int) (l : List Address) (hv : v = acceptLists.go steps n0 i l) (h0 : acceptLists.rng steps n0 i l) (st : St El) (q1 : okH [4, 3, 0] [] st = true) (q2 : headS [4, 3, 0] [] st = acceptLists.hd steps i l) : evCode (mkCxI Tryd.prog S tab_acceptPolicies 0 true sum_dDel) (evFun (mkCxI Tryd.prog S tab_acceptPolicies 0 true sum_dDel) 3) (.loop (loopB Tryd.prog 7 [true, true, true, true, false, true, false])) st (loopK (mkCxI Tryd.prog S tab_acceptPolicies 0 true sum_dDel) 3 7 [true, true, true, true, false, true, false] (fun r' H' => Gives r' H' (acceptLists.res v) (acceptLists.news v))) := by
  refine loop_ev rfl (evFun_mono _ _) [4, 3, 0] [] (X := Nat × Int × (List Address)) (fun x => acceptLists.hd steps x.2.1 x.2.2) (fun x => x.1) (fun x => acceptLists.rng steps x.1 x.2.1 x.2.2 ∧ v = acceptLists.go steps x.1 x.2.1 x.2.2) (n0, i, l) ⟨q1, q2⟩ ⟨h0, hv⟩ ?_
  clear h0 hv q1 q2
  rintro ⟨n0, i, l⟩ ⟨hr, hv⟩
  dsimp only at hr hv
  cases n0 with
  | zero => exact absurd hr (by unfold acceptLists.rng; omega)
  | succ n0 =>
  unfold acceptLists.rng at hr
  unfold acceptLists.go at hv
  refine (acceptLists.st_ok steps i l _ _).mpr ?_
  unfold acceptLists.st
  intro hlen
  revert hv; refine by_cond2 (fun hb hv => ?_) (fun hb hv => ?_)
  refine ⟨⟨?_⟩, ?_⟩; rotate_left
  refine ⟨⟨?_⟩, ?_⟩; rotate_left
  refine ⟨⟨?_⟩, ?_⟩; rotate_left
  revert hv; refine by_cond2 (fun hb hv => ?_) (fun hb hv => ?_)
  refine ⟨⟨?_⟩, ?_⟩; rotate_left
  refine ⟨⟨?_⟩, ?_⟩; rotate_left
  revert hv; refine by_cond2 (fun hb hv => ?_) (fun hb hv => ?_)
  refine ⟨⟨?_⟩, ?_⟩; rotate_left
  refine ⟨⟨o3_ok _⟩, ?_⟩
  refine ⟨⟨o3_ok _⟩, ?_⟩
  refine ⟨⟨on_ok _⟩, ?_⟩
  refine ⟨⟨o3_ok _⟩, ?_⟩
  refine ⟨⟨o3_ok _⟩, ?_⟩
  refine ⟨⟨o3_ok _⟩, ?_⟩
  refine ⟨⟨o3_ok _⟩, ?_⟩
  refine ⟨⟨o3_ok _⟩, ?_⟩
  refine ⟨⟨o3_ok _⟩, ?_⟩
  refine ⟨⟨?_⟩, ?_⟩; rotate_left
  refine ⟨⟨o3_ok _⟩, ?_⟩
  refine ⟨⟨o3_ok _⟩, ?_⟩
  refine ⟨⟨o3_ok _⟩, ?_⟩
  refine ⟨⟨o3_ok _⟩, ?_⟩
  refine ⟨⟨o2_ok _⟩, ?_⟩
  refine ⟨⟨?_⟩, ?_⟩; rotate_left
  refine ⟨⟨on_ok _⟩, ?_⟩
  refine ⟨⟨o3_ok _⟩, ?_⟩
  refine ⟨⟨o3_ok _⟩, ?_⟩
  refine ⟨⟨o3_ok _⟩, ?_⟩
  refine ⟨⟨o3_ok _⟩, ?_⟩
  refine ⟨⟨o3_ok _⟩, ?_⟩
  refine ⟨⟨o3_ok _⟩, ?_⟩
  refine ⟨⟨?_⟩, ?_⟩; rotate_left
  refine ⟨⟨o3_ok _⟩, ?_⟩
  refine ⟨⟨o3_ok _⟩, ?_⟩
  refine ⟨⟨o3_ok _⟩, ?_⟩
  refine ⟨⟨o3_ok _⟩, ?_⟩
  refine ⟨⟨o2_ok _⟩, ?_⟩
  refine ⟨⟨?_⟩, ?_⟩; rotate_left
  refine ⟨⟨on_ok _⟩, ?_⟩
  revert hv; refine by_cond2 (fun hb hv => ?_) (fun hb hv => ?_)
  subst hv; exact And.intro (by kernel_rfl) (by kernel_rfl)
  exact ⟨(n0, (IntKind.wrap IntKind.i64 (i + (1 : Int))), (l ++ [(List.getD steps (Int.toNat i) Law20Step.zero).Address])), (by kernel_rfl), Nat.lt_succ_self n0, (by dsimp only; unfold acceptLists.rng; (try clear hv); (try clear q1 q2); (try clear hk); ((try simp only [decide_eq_true_eq, List.length_append, List.length_cons, List.length_nil] at *); have h2 := wi64 (i + (1 : Int)) (by omega) (by omega); have h3 := without_le l (steps.getD i.toNat Law20Step.zero).Address (by omega); omega)), hv⟩
  refine ⟨⟨o3_ok _⟩, ?_⟩
  refine ⟨⟨o3_ok _⟩, ?_⟩
  refine ⟨⟨on_ok _⟩, ?_⟩
  refine ⟨⟨o3_ok _⟩, ?_⟩
  refine ⟨⟨o3_ok _⟩, ?_⟩
  refine ⟨⟨o3_ok _⟩, ?_⟩
  refine ⟨⟨o3_ok _⟩, ?_⟩
  refine ⟨⟨o3_ok _⟩, ?_⟩
  refine ⟨⟨o3_ok _⟩, ?_⟩
  refine ⟨⟨?_⟩, ?_⟩; rotate_left
  refine ⟨⟨o3_ok _⟩, ?_⟩
  refine ⟨⟨o3_ok _⟩, ?_⟩
  refine ⟨⟨o3_ok _⟩, ?_⟩
  refine ⟨⟨o3_ok _⟩, ?_⟩
  refine ⟨⟨o2_ok _⟩, ?_⟩
  refine ⟨⟨?_⟩, ?_⟩; rotate_left
  refine ⟨⟨on_ok _⟩, ?_⟩
  refine ⟨⟨o3_ok _⟩, ?_⟩
  refine ⟨⟨o3_ok _⟩, ?_⟩
  refine ⟨⟨o3_ok _⟩, ?_⟩
  refine ⟨⟨o3_ok _⟩, ?_⟩
  refine ⟨⟨o3_ok _⟩, ?_⟩
  refine ⟨⟨o3_ok _⟩, ?_⟩
  refine ⟨⟨?_⟩, ?_⟩; rotate_left
  refine ⟨⟨o3_ok _⟩, ?_⟩
  refine ⟨⟨o3_ok _⟩, ?_⟩
  refine ⟨⟨o3_ok _⟩, ?_⟩
  refine ⟨⟨o3_ok _⟩, ?_⟩
  refine ⟨⟨o2_ok _⟩, ?_⟩
  refine ⟨⟨?_⟩, ?_⟩; rotate_left
  refine ⟨⟨on_ok _⟩, ?_⟩
  revert hv; refine by_cond2 (fun hb hv => ?_) (fun hb hv => ?_)
  subst hv; exact And.intro (by kernel_rfl) (by kernel_rfl)
  exact ⟨(n0, (IntKind.wrap IntKind.i64 (i + (1 : Int))), (l)), (by kernel_rfl), Nat.lt_succ_self n0, (by dsimp only; unfold acceptLists.rng; (try clear hv); (try clear q1 q2); (try clear hk); ((try simp only [decide_eq_true_eq, List.length_append, List.length_cons, List.length_nil] at *); have h2 := wi64 (i + (1 : Int)) (by omega) (by omega); have h3 := without_le l (steps.getD i.toNat Law20Step.zero).Address (by omega); omega)), hv⟩
  refine ⟨⟨?_⟩, ?_⟩; rotate_left
  refine ⟨⟨?_⟩, ?_⟩; rotate_left
  revert hv; refine by_cond2 (fun hb hv => ?_) (fun hb hv => ?_)
  refine ⟨⟨?_⟩, ?_⟩; rotate_left
  refine ⟨⟨o3_ok _⟩, ?_⟩
  refine ⟨⟨o3_ok _⟩, ?_⟩
  refine ⟨⟨on_ok _⟩, ?_⟩
  refine ⟨⟨o3_ok _⟩, ?_⟩
  refine ⟨⟨o3_ok _⟩, ?_⟩
  refine ⟨⟨o3_ok _⟩, ?_⟩
  refine ⟨⟨o3_ok _⟩, ?_⟩
  refine ⟨⟨o3_ok _⟩, ?_⟩
  refine ⟨⟨o3_ok _⟩, ?_⟩
  refine ⟨⟨?_⟩, ?_⟩; rotate_left
  refine ⟨⟨o3_ok _⟩, ?_⟩
  refine ⟨⟨o3_ok _⟩, ?_⟩
  refine ⟨⟨o3_ok _⟩, ?_⟩
  refine ⟨⟨o3_ok _⟩, ?_⟩
  refine ⟨⟨o2_ok _⟩, ?_⟩
  refine ⟨⟨?_⟩, ?_⟩; rotate_left
  refine ⟨⟨on_ok _⟩, ?_⟩
  refine ⟨⟨o3_ok _⟩, ?_⟩
  refine ⟨⟨o3_ok _⟩, ?_⟩
  refine ⟨⟨o3_ok _⟩, ?_⟩
  refine ⟨⟨o3_ok _⟩, ?_⟩
  refine ⟨⟨o3_ok _⟩, ?_⟩
  refine ⟨⟨o3_ok _⟩, ?_⟩
  refine ⟨⟨?_⟩, ?_⟩; rotate_left
  refine ⟨⟨o3_ok _⟩, ?_⟩
  refine ⟨⟨o3_ok _⟩, ?_⟩
  refine ⟨⟨o3_ok _⟩, ?_⟩
  refine ⟨⟨o3_ok _⟩, ?_⟩
  refine ⟨⟨o2_ok _⟩, ?_⟩
  refine ⟨⟨?_⟩, ?_⟩; rotate_left
  refine ⟨⟨on_ok _⟩, ?_⟩
  revert hv; refine by_cond2 (fun hb hv => ?_) (fun hb hv => ?_)
  subst hv; exact And.intro (by kernel_rfl) (by kernel_rfl)
  exact ⟨(n0, (IntKind.wrap IntKind.i64 (i + (1 : Int))), (without l (List.getD steps (Int.toNat i) Law20Step.zero).Address)), (by kernel_rfl), Nat.lt_succ_self n0, (by dsimp only; unfold acceptLists.rng; (try clear hv); (try clear q1 q2); (try clear hk); ((try simp only [decide_eq_true_eq, List.length_append, List.length_cons, List.length_nil] at *); have h2 := wi64 (i + (1 : Int)) (by omega) (by omega); have h3 := without_le l (steps.getD i.toNat Law20Step.zero).Address (by omega); omega)), hv⟩
  refine ⟨⟨o3_ok _⟩, ?_⟩
  refine ⟨⟨o3_ok _⟩, ?_⟩
  refine ⟨⟨on_ok _⟩, ?_⟩
  refine ⟨⟨o3_ok _⟩, ?_⟩
  refine ⟨⟨o3_ok _⟩, ?_⟩
  refine ⟨⟨o3_ok _⟩, ?_⟩
  refine ⟨⟨o3_ok _⟩, ?_⟩
  refine ⟨⟨o3_ok _⟩, ?_⟩
  refine ⟨⟨o3_ok _⟩, ?_⟩
  refine ⟨⟨?_⟩, ?_⟩; rotate_left
  refine ⟨⟨o3_ok _⟩, ?_⟩
  refine ⟨⟨o3_ok _⟩, ?_⟩
  refine ⟨⟨o3_ok _⟩, ?_⟩
  refine ⟨⟨o3_ok _⟩, ?_⟩
  refine ⟨⟨o2_ok _⟩, ?_⟩
  refine ⟨⟨?_⟩, ?_⟩; rotate_left
  refine ⟨⟨on_ok _⟩, ?_⟩
  refine ⟨⟨o3_ok _⟩, ?_⟩
  refine ⟨⟨o3_ok _⟩, ?_⟩
  refine ⟨⟨o3_ok _⟩, ?_⟩
  refine ⟨⟨o3_ok _⟩, ?_⟩
  refine ⟨⟨o3_ok _⟩, ?_⟩
  refine ⟨⟨o3_ok _⟩, ?_⟩
  refine ⟨⟨?_⟩, ?_⟩; rotate_left
  refine ⟨⟨o3_ok _⟩, ?_⟩
  refine ⟨⟨o3_ok _⟩, ?_⟩
  refine ⟨⟨o3_ok _⟩, ?_⟩
  refine ⟨⟨o3_ok _⟩, ?_⟩
  refine ⟨⟨o2_ok _⟩, ?_⟩
  refine ⟨⟨?_⟩, ?_⟩; rotate_left
  refine ⟨⟨on_ok _⟩, ?_⟩
  revert hv; refine by_cond2 (fun hb hv => ?_) (fun hb hv => ?_)
  subst hv; exact And.intro (by kernel_rfl) (by kernel_rfl)
  exact ⟨(n0, (IntKind.wrap IntKind.i64 (i + (1 : Int))), (l)), (by kernel_rfl), Nat.lt_succ_self n0, (by dsimp only; unfold acceptLists.rng; (try clear hv); (try clear q1 q2); (try clear hk); ((try simp only [decide_eq_true_eq, List.length_append, List.length_cons, List.length_nil] at *); have h2 := wi64 (i + (1 : Int)) (by omega) (by omega); have h3 := without_le l (steps.getD i.toNat Law20Step.zero).Address (by omega); omega)), hv⟩
  subst hv; exact And.intro (by kernel_rfl) (by kernel_rfl)
  all_goals ((try clear hv); (try clear q1 q2); (try clear hk); (first | omega | (exact pick_ok _ _) | (exact pick_ok2 _ _) | (exact pick_ok3 _ _) | ((try simp only [decide_eq_true_eq, decide_eq_false_iff_not, Bool.not_eq_true, Bool.not_eq_false, Bool.and_eq_true, Bool.or_eq_true, Bool.not_not, cond_and, cond_or, List.length_append, List.length_cons, List.length_nil] at *); (first | done | ((first | omega | (intros; (try simp only [Bool.not_not, cond_and, cond_or, Bool.and_eq_true, decide_eq_true_eq] at *); (simp only [copied20, same20, List.nil_append] at *; omega)) | (intros; (try simp only [Bool.not_not, cond_and, cond_or, Bool.and_eq_true, decide_eq_true_eq] at *); (simp only [copied20, List.nil_append]; omega)) | (intros; (try simp only [Bool.not_not, cond_and, cond_or, Bool.and_eq_true, decide_eq_true_eq] at *); (simp only [same20, List.nil_append]; omega)) | (intros; (try simp only [Bool.not_not, cond_and, cond_or, Bool.and_eq_true, decide_eq_true_eq] at *); (simp only [copied20, same20, List.nil_append] at *; omega)) | (intros; (try simp only [Bool.not_not, cond_and, cond_or, Bool.and_eq_true, decide_eq_true_eq] at *); (simp only [copied20, List.nil_append]; omega)) | (intros; (try simp only [Bool.not_not, cond_and, cond_or, Bool.and_eq_true, decide_eq_true_eq] at *); (simp only [same20, List.nil_append]; omega)) | (intros; (try simp only [Bool.not_not, cond_and, cond_or, Bool.and_eq_true, decide_eq_true_eq] at *); (simp only [copied20, same20, List.nil_append] at *; omega)) | (intros; (try simp only [Bool.not_not, cond_and, cond_or, Bool.and_eq_true, decide_eq_true_eq] at *); (simp only [copied20, List.nil_append]; omega)) | (intros; (try simp only [Bool.not_not, cond_and, cond_or, Bool.and_eq_true, decide_eq_true_eq] at *); (simp only [same20, List.nil_append]; omega)) | (intros; (try simp only [Bool.not_not, cond_and, cond_or, Bool.and_eq_true, decide_eq_true_eq] at *); (simp only [aClone, List.length_cons, List.length_nil] at *; omega)) | (intros; (try simp only [Bool.not_not, cond_and, cond_or, Bool.and_eq_true, decide_eq_true_eq] at *); (decide +kernel)) | (intros; (try simp only [Bool.not_not, cond_and, cond_or, Bool.and_eq_true, decide_eq_true_eq] at *); (simp only [aClone] at *; omega)) | (intros; (try simp only [Bool.not_not, cond_and, cond_or, Bool.and_eq_true, decide_eq_true_eq] at *); (exact band_nn rfl _ _)) | (intros; (try simp only [Bool.not_not, cond_and, cond_or, Bool.and_eq_true, decide_eq_true_eq] at *); (exact (wu64s _).2.1)) | (intros; (try simp only [Bool.not_not, cond_and, cond_or, Bool.and_eq_true, decide_eq_true_eq] at *); (simp only [Bool.or_eq_false_iff, Bool.and_eq_false_iff, decide_eq_false_iff_not, decide_eq_true_eq, bne_iff_ne, beq_iff_eq, bne_eq_false_iff_eq, beq_eq_false_iff_ne, ne_eq, true_and] at *; omega)) | (intros; (try simp only [Bool.not_not, cond_and, cond_or, Bool.and_eq_true, decide_eq_true_eq] at *); (simp only [List.length_drop, List.length_take, List.length_append, List.length_cons, List.length_nil] at *; omega)) | (intros; (try simp only [Bool.not_not, cond_and, cond_or, Bool.and_eq_true, decide_eq_true_eq] at *); (simp_all; omega)) | (intros; (try simp only [Bool.not_not, cond_and, cond_or, Bool.and_eq_true, decide_eq_true_eq] at *); (simp_all [copied20, same20]; omega)) | (intros; (try simp only [Bool.not_not, cond_and, cond_or, Bool.and_eq_true, decide_eq_true_eq] at *); (simp_all; omega)) | (intros; (try simp only [Bool.not_not, cond_and, cond_or, Bool.and_eq_true, decide_eq_true_eq] at *); (simp_all [copied20, same20]; omega)) | (intros; (try simp only [Bool.not_not, cond_and, cond_or, Bool.and_eq_true, decide_eq_true_eq] at *); (simp_all; omega)) | (intros; (try simp only [Bool.not_not, cond_and, cond_or, Bool.and_eq_true, decide_eq_true_eq] at *); (simp_all [copied20, same20]; omega)) | (intros; omega) | (intros; simp only [Bool.not_not, cond_and, cond_or, Bool.and_eq_true, decide_eq_true_eq] at *; omega) | (intros; simp_all [Bool.not_not]; done)))))))
def acceptLists (steps : List Law20Step) : Bool := cond (decide ((100 : Int) < (↑(List.length steps) : Int))) (true) (acceptLists.go steps (steps.length + 1) ((0 : Int)) ([]))
def acceptLists.dec (cs : List (AV El)) : Option ((List Law20Step)) := popS 42 cs fun a0 c0 => popE c0 a0
def acceptLists.enc (x : (List Law20Step)) : List (AV El) := [.sl 42 (x : List (El 42)) false]
theorem acceptLists.dec_ok : ∀ cs x, acceptLists.dec cs = some x → Imp (S := S) cs (acceptLists.enc x) := by
  intro cs x h
  unfold acceptLists.dec at h
  obtain ⟨a0, c0, h0, k0⟩ := popS_some (S := S) (t := 42) h
  obtain ⟨rfl, rfl⟩ := popE_some (S := S) h0
  exact (k0 _ (.refl _))
def acceptLists.nf (steps : List Law20Step) (K : AV El → List (AObj El) → Prop) : Prop := (List.length steps ≤ (9223372036854775807 : Nat)) → (cond (decide ((100 : Int) < (↑(List.length steps) : Int))) (K (.v (.bool (true))) []) (evCode (mkCxI Tryd.prog S tab_acceptPolicies 0 true sum_dDel) (evFun (mkCxI Tryd.prog S tab_acceptPolicies 0 true sum_dDel) 3) (.loop (loopB Tryd.prog 7 [true, true, true, true, false, true, false])) ({ lo := 0, slots := [(4, .v (.int .i64 ((0 : Int)))), (3, .gs 0), (14, .gs 0), (13, .v (.bool (decide ((100 : Int) < (↑(List.length steps) : Int))))), (12, .v (.int .i64 ((↑(List.length steps) : Int)))), (11, .sl 42 (steps : List (El 42)) false), (10, .v (.bool (false))), (9, .v (.bool (lives20))), (2, .v (.bool (false))), (0, .sl 42 (steps : List (El 42)) false)], n := 97, objs := [.row 25 ([] : List (El 25))] }) (loopK (mkCxI Tryd.prog S tab_acceptPolicies 0 true sum_dDel) 3 7 [true, true, true, true, false, true, false] K)))
theorem acceptLists.nf_ok (steps : List Law20Step) (K : AV El → List (AObj El) → Prop) : evFun (mkCxI Tryd.prog S tab_acceptPolicies 0 true sum_dDel) 4 7 [.sl 42 (steps : List (El 42)) false] [] K = acceptLists.nf steps K := by kernel_rfl
theorem acceptLists.key (steps : List Law20Step) (v : Bool) (hv : v = acceptLists steps) : acceptLists.nf steps (fun r' H' => Gives r' H' (acceptLists.res v) (acceptLists.news v)) := by
  unfold acceptLists at hv
  unfold acceptLists.nf
  intro hlen
  revert hv; refine by_cond2 (fun hb hv => ?_) (fun hb hv => ?_)
  · subst hv; exact And.intro (by kernel_rfl) (by kernel_rfl)
  · exact acceptLists.lp steps v _ _ _ hv (by unfold acceptLists.rng; (try clear hv); (try clear q1 q2); (try clear hk); ((try simp only [decide_eq_true_eq, decide_eq_false_iff_not, Bool.not_eq_true, Bool.not_eq_false, Bool.and_eq_true, Bool.or_eq_true, Bool.not_not, cond_and, cond_or, List.length_append, List.length_cons, List.length_nil] at *); (try simp only [List.length_nil]); omega)) _ (by kernel_rfl) (by kernel_rfl)
def acceptLists.ct : Ct El := ctOf acceptLists.dec (fun _ => []) (fun x => acceptLists.res (acceptLists x)) (fun x => acceptLists.news (acceptLists x))
theorem acceptLists.ok : CtOk (mkCx Tryd.prog S [] 0) 7 acceptLists.ct := ct_mk (C := (mkCxI Tryd.prog S tab_acceptPolicies 0 true sum_dDel)) (mkCxI_ok sigOk mixed tab_acceptPolicies_ok 0 true sum_dDel_ok) acceptLists.dec_ok (fun x => rfl) 4 (fun x _ => (acceptLists.nf_ok x _).mpr (acceptLists.key x _ rfl))
def tab_acceptLists : List (FuncId × Ct El) := (7, acceptLists.ct) :: tab_acceptPolicies
theorem tab_acceptLists_ok : TabOk Tryd.prog S tab_acceptLists := ⟨acceptLists.ok, by kernel_rfl, tab_acceptPolicies_ok⟩

end Go.Aw.W
