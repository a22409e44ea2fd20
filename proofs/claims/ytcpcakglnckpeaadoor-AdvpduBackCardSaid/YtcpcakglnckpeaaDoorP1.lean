/- Lengths of what is encoded. -/
import Derived.Test.YtcpcakglnckpeaaDoorOct
set_option linter.unusedVariables false
namespace Go.Aw.W
open Go Go.Aw Go.Proofs
theorem cond_le {α β : Type} {b : Bool} {x y : α × List β × Int} {n : Nat} (h1 : b = true → x.2.1.length ≤ n) (h2 : b = false → y.2.1.length ≤ n) : (cond b x y).2.1.length ≤ n := by
  cases b
  · exact h2 rfl
  · exact h1 rfl
theorem aEncode_len (a : Address) : (aEncode a).1.length ≤ 16 := by
  unfold aEncode
  cases aCheck a != 0
  · exact oPut_len _ (by simp)
  · simp
theorem r8Encode_len (a : Address) : (r8Encode a).1.length ≤ 9 := by
  unfold r8Encode
  have := r2Num_len a.Bits (show (6 : Int) ≤ 8 by omega)
  cases r8Check a != 0
  · simp; omega
  · simp
theorem cEncode_len (p : ConnParams) : (cEncode p).1.length ≤ 88 := by
  unfold cEncode
  cases cCheck p != 0
  · exact oPut_len _ (by simp)
  · simp
theorem r17Encode_len (p : ConnParams) : (r17Encode p).1.length ≤ 88 := by
  unfold r17Encode
  cases r17Check p != 0
  · exact r2Put_len _ (by simp [r17fields])
  · simp
theorem oTake_go2_rest (b sizes : List Int) : ∀ (n : Nat) (j : Int) (c out : List Int), (oTake.go2 b sizes n j c out).2.1.length ≤ c.length
  | 0, j, c, out => by simp [oTake.go2]
  | n + 1, j, c, out => by
    unfold oTake.go2
    by_cases hj : j < sizes.length
    · simp only [hj, decide_true, cond_true]
      refine Nat.le_trans (oTake_go2_rest b sizes n _ _ _) ?_
      simp only [List.length_drop, List.length_take]; omega
    · simp only [hj, decide_false, cond_false]
      rw [oJoin_one]; exact Nat.le_refl _
theorem oTake_go1_rest (b sizes : List Int) : ∀ (n : Nat) (i need : Int), (oTake.go1 b sizes n i need).2.1.length ≤ b.length
  | 0, i, need => by simp [oTake.go1]
  | n + 1, i, need => by
    unfold oTake.go1
    by_cases hi : i < sizes.length
    · simp only [hi, decide_true, cond_true]
      cases (!sized (sizes.getD i.toNat 0))
      · exact oTake_go1_rest b sizes n _ _
      · simp
    · simp only [hi, decide_false, cond_false]
      by_cases hl : (b.length : Int) < need
      · simp [hl]
      · simp only [hl, decide_false, cond_false]
        exact oTake_go2_rest b sizes _ _ _ _
theorem oTake_rest (b sizes : List Int) : (oTake b sizes).2.1.length ≤ b.length := oTake_go1_rest b sizes _ _ _
theorem aDecode_rest (b : List Int) : (aDecode b).2.1.length ≤ b.length := by
  have := oTake_rest b [1, 6]
  unfold aDecode
  generalize oTake b [1, 6] = t at *
  repeat' (first | (refine cond_le (fun _ => ?_) (fun _ => ?_)))
  all_goals first | (simp; done) | (simp; omega) | exact this
theorem r8Decode_rest (b : List Int) : (r8Decode b).2.1.length ≤ b.length := by
  unfold r8Decode
  repeat' (first | (refine cond_le (fun _ => ?_) (fun _ => ?_)))
  all_goals first | (simp; done) | (simp; omega)
end Go.Aw.W
