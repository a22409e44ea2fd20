/- Lengths: PDUs. -/
import Derived.Test.YtcpcakglnckpeaaDoorW12
import Derived.Test.YtcpcakglnckpeaaDoorP1b
set_option linter.unusedVariables false
set_option maxRecDepth 4000
namespace Go.Aw.W
open Go Go.Aw Go.Proofs
theorem own19_data (p : AdvPDU) : (own19 p).Data = p.Data := by unfold own19; rfl
theorem cz {b : Bool} {x y : Int} (h : cond b x y = 0) : (b = true ∧ x = 0) ∨ (b = false ∧ y = 0) := by
  cases b
  · exact .inr ⟨rfl, h⟩
  · exact .inl ⟨rfl, h⟩
theorem data_fin {d : Bool} {n : Nat} (e1 : (bif d then decide ((31 : Int) < (n : Int)) else false) = false) (e2 : (bif !d then decide ((0 : Int) < (n : Int)) else false) = false) : n ≤ 31 := by
  cases d
  · simp at e2; omega
  · simp at e1; omega
theorem pCheck_data (p : AdvPDU) (h : pCheck p = 0) : p.Data.length ≤ 31 := by
  unfold pCheck at h
  rcases cz h with ⟨_, h⟩ | ⟨_, h⟩
  · exact absurd h (by decide)
  rcases cz h with ⟨e, h⟩ | ⟨_, h⟩
  · simp [h] at e
  rcases cz h with ⟨_, h⟩ | ⟨_, h⟩
  · rcases cz h with ⟨e, h⟩ | ⟨_, h⟩
    · simp [h] at e
    rcases cz h with ⟨e, h⟩ | ⟨e1, h⟩
    · exact absurd h (by decide)
    rcases cz h with ⟨e, h⟩ | ⟨e2, h⟩
    · exact absurd h (by decide)
    exact data_fin e1 e2
  · rcases cz h with ⟨e, h⟩ | ⟨_, h⟩
    · exact absurd h (by decide)
    rcases cz h with ⟨e, h⟩ | ⟨e1, h⟩
    · exact absurd h (by decide)
    rcases cz h with ⟨e, h⟩ | ⟨e2, h⟩
    · exact absurd h (by decide)
    exact data_fin e1 e2
theorem fst_le {α β : Type} {b : Bool} {x y : List α × β} {n : Nat} (h1 : b = true → x.1.length ≤ n) (h2 : b = false → y.1.length ≤ n) : (cond b x y).1.length ≤ n := by
  cases b
  · exact h2 rfl
  · exact h1 rfl
theorem pEncode_len (p : AdvPDU) : (pEncode p).1.length ≤ 200 := by
  have h1 := aEncode_len p.Sender
  have h2 := aEncode_len p.Target
  have h3 := cEncode_len p.Conn
  by_cases hc : pCheck p = 0
  · have hd := pCheck_data p hc
    unfold pEncode
    generalize aEncode p.Sender = a at *
    generalize aEncode p.Target = t at *
    generalize cEncode p.Conn = c at *
    repeat' (first | (refine fst_le (fun _ => ?_) (fun _ => ?_)))
    all_goals (simp only [List.length_append, List.length_cons, List.length_nil]; omega)
  · unfold pEncode
    have e : (pCheck p != 0) = true := by simp [hc]
    rw [e, cond_true]; simp
theorem data_le {β : Type} {b : Bool} {x y : AdvPDU × β} {n : Nat} (h1 : b = true → x.1.Data.length ≤ n) (h2 : b = false → y.1.Data.length ≤ n) : (cond b x y).1.Data.length ≤ n := by
  cases b
  · exact h2 rfl
  · exact h1 rfl
theorem pDecode0_data (b : List Int) : (pDecode0 b).1.Data.length ≤ b.length := by
  have h0 : (List.drop (Int.toNat (2 : Int)) (List.take (Int.toNat (↑(List.length b) : Int)) b)).length ≤ b.length := by simp only [List.length_drop, List.length_take]; omega
  have h1 := aDecode_rest (List.drop (Int.toNat (2 : Int)) (List.take (Int.toNat (↑(List.length b) : Int)) b))
  have h2 := aDecode_rest (aDecode (List.drop (Int.toNat (2 : Int)) (List.take (Int.toNat (↑(List.length b) : Int)) b))).2.1
  unfold pDecode0
  generalize aDecode (aDecode (List.drop (Int.toNat (2 : Int)) (List.take (Int.toNat (↑(List.length b) : Int)) b))).2.1 = u at *
  generalize aDecode (List.drop (Int.toNat (2 : Int)) (List.take (Int.toNat (↑(List.length b) : Int)) b)) = t at *
  repeat' (first | (refine data_le (fun _ => ?_) (fun _ => ?_)))
  all_goals first | (exact Nat.zero_le _) | (exact Nat.le_trans h2 (Nat.le_trans h1 h0)) | (exact Nat.le_trans h1 h0)
theorem pDecode_data (b : List Int) : (pDecode b).1.Data.length ≤ b.length := by
  have h := pDecode0_data b
  unfold pDecode
  generalize pDecode0 b = t at *
  repeat' (first | (refine data_le (fun _ => ?_) (fun _ => ?_)))
  all_goals first | (exact Nat.zero_le _) | exact h
end Go.Aw.W
