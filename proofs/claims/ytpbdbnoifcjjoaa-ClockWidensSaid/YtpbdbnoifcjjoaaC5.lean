/- Contracts of Real, the program's and the document's. -/
import Derived.Test.YtpbdbnoifcjjoaaC4
import Derived.Test.YtpbdbnoifcjjoaaAwF
set_option linter.unusedVariables false
namespace Go.Aw.Clock
open Go.Aw Go.Proofs
noncomputable def C3 : Cx := { P := Try.prog, S := S, T := fun n => match n with | 13 => some localCt | 14 => some localCt | _ => none, eqT := fun _ => false, F := fun n => match n with | 15 => some Try.f15 | 16 => some Try.f16 | 21 => some Try.f21 | _ => none }
theorem ok3 : CxOk C3 := by
  refine ⟨sigOk, (fun t h => by cases h), (fun f ct h => ?_), (fun f ct h => ?_), fun f fn h => ?_, mixed⟩
  · simp only [C3] at h
    split at h
    · cases h; exact local13
    · cases h; exact local14
    · cases h
  · simp only [C3] at h
    split at h
    · cases h; exact ⟨_, Try.func13, by kernel_rfl, by kernel_rfl⟩
    · cases h; exact ⟨_, Try.func14, by kernel_rfl, by kernel_rfl⟩
    · cases h
  · simp only [C3] at h
    split at h
    · cases h; exact ⟨Try.func15, by kernel_rfl⟩
    · cases h; exact ⟨Try.func16, by kernel_rfl⟩
    · cases h; exact ⟨Try.func21, by kernel_rfl⟩
    · cases h
noncomputable def body15 : Code := match Try.f15.body with | some c => c | none => .skip
noncomputable def body16 : Code := match Try.f16.body with | some c => c | none => .skip
noncomputable def blk15 : Code := fstC (sndC (sndC (sndC body15)))
noncomputable def blk16 : Code := fstC (sndC (sndC body16))
noncomputable def L15 : Code := fstC (fstC blk15)
noncomputable def R15 : Code := sndC (sndC (sndC (sndC body15)))
def st15 (p s l lo hi : Int) : St ElC := { lo := 0, slots := [(5, .clo 21 [.ref 0 0, .ref 1 0]), (6, i lo), (7, i hi)], n := 24, objs := [.cells [i p, i s], .cells [i l]] }
def stA (p s l : Int) : St ElC := { lo := 0, slots := [(7, i 1099511627776), (6, i 0), (5, .clo 21 [.ref 0 0, .ref 1 0]), (9, .clo 21 [.ref 0 0, .ref 1 0]), (4, i 0), (3, .ref 1 0), (2, .ref 0 0), (0, .agg [i p, i s]), (1, i l)], n := 24, objs := [.cells [i p, i s], .cells [i l]] }
def stB (p s l : Int) : St ElC := { lo := 0, slots := [(6, i 1099511627776), (5, i 0), (4, i 0), (2, .ref 0 0), (0, .agg [i p, i s]), (1, i l)], n := 24, objs := [.cells [i p, i s]] }
def st16 (p s l lo hi : Int) : St ElC := { lo := 0, slots := [(1, i l), (2, .ref 0 0), (5, i lo), (6, i hi)], n := 24, objs := [.cells [i p, i s]] }
noncomputable def L16 : Code := fstC (fstC blk16)
noncomputable def R16 : Code := sndC (sndC (sndC body16))
def endK (C : Cx) (fn : Func) (K : AV C.S.El → List (AObj C.S.El) → Prop) : AExit → St C.S.El → Prop := fun e st => match e with
  | .exit _ => False
  | _ => match resultsA C fn st with
    | some r => K r st.objs
    | none => False
def md (lo hi : Int) : Int := IntKind.i64.wrap ((IntKind.i64.wrap (lo + hi)).tdiv 2)
def md1 (lo hi : Int) : Int := IntKind.i64.wrap (md lo hi + 1)
noncomputable def K15 (Q : AV ElC → List (AObj ElC) → Prop) : AExit → St ElC → Prop := blockK C3 0 (seqK C3 (evFun C3 2) R15 (endK C3 Try.f15 Q))
noncomputable def K16 (Q : AV ElC → List (AObj ElC) → Prop) : AExit → St ElC → Prop := blockK C3 0 (seqK C3 (evFun C3 2) R16 (endK C3 Try.f16 Q))
theorem to15 (p s l : Int) (Q : AV ElC → List (AObj ElC) → Prop) : evFun C3 3 15 [ck p s, i l] [] Q = evCode C3 (evFun C3 2) (.loop L15) (stA p s l) (K15 Q) := by kernel_rfl
theorem to16 (p s l : Int) (Q : AV ElC → List (AObj ElC) → Prop) : evFun C3 3 16 [ck p s, i l] [] Q = evCode C3 (evFun C3 2) (.loop L16) (stB p s l) (K16 Q) := by kernel_rfl
theorem step15 (p s l lo hi : Int) (Q : AV ElC → List (AObj ElC) → Prop) (J : St ElC → Prop) : evCode C3 (evFun C3 2) L15 (st15 p s l lo hi) (roundK (C := C3) [5, 6, 7] J (K15 Q)) =
    ((decide (lo < hi) = true → Ob ((2 : Int) ≠ 0) ∧ ((decide (l ≤ localF p s (md lo hi)) = true → true = true ∧ J (st15 p s l lo (md lo hi))) ∧ (decide (l ≤ localF p s (md lo hi)) = false → true = true ∧ J (st15 p s l (md1 lo hi) hi)))) ∧
     (decide (lo < hi) = false → Q (i lo) [.cells [i p, i s], .cells [i l]])) := by kernel_rfl
theorem step16 (p s l lo hi : Int) (Q : AV ElC → List (AObj ElC) → Prop) (J : St ElC → Prop) : evCode C3 (evFun C3 2) L16 (st16 p s l lo hi) (roundK (C := C3) [1, 2, 5, 6] J (K16 Q)) =
    ((decide (lo < hi) = true → Ob ((2 : Int) ≠ 0) ∧ ((decide (l ≤ localF p s (md lo hi)) = true → true = true ∧ J (st16 p s l lo (md lo hi))) ∧ (decide (l ≤ localF p s (md lo hi)) = false → true = true ∧ J (st16 p s l (md1 lo hi) hi)))) ∧
     (decide (lo < hi) = false → Q (i lo) [.cells [i p, i s]])) := by kernel_rfl
def bsF (p s l : Int) : Nat → Int → Int → Int
  | 0, lo, _ => lo
  | k + 1, lo, hi => if lo < hi then (if l ≤ localF p s ((lo + hi) / 2) then bsF p s l k lo ((lo + hi) / 2) else bsF p s l k ((lo + hi) / 2 + 1) hi) else lo
def realF (p s l : Int) : Int := bsF p s l 41 0 1099511627776
def In (p s l : Int) (k : Nat) (lo hi : Int) : Prop := 0 ≤ lo ∧ lo ≤ hi ∧ hi ≤ 1099511627776 ∧ hi - lo < 2 ^ k ∧ bsF p s l k lo hi = realF p s l
theorem in0 (p s l : Int) : In p s l 41 0 1099511627776 := ⟨by decide, by decide, by decide, by decide, rfl⟩
theorem md_eq {lo hi : Int} (h0 : 0 ≤ lo) (h1 : lo ≤ hi) (h2 : hi ≤ 1099511627776) : md lo hi = (lo + hi) / 2 := by
  unfold md
  rw [wi64 (lo + hi) (by omega) (by omega), Int.tdiv_eq_ediv_of_nonneg (by omega), wi64 _ (by omega) (by omega)]
theorem in_step {p s l : Int} {k : Nat} {lo hi : Int} (h : In p s l k lo hi) (hlt : lo < hi) : ∃ m, k = m + 1 ∧ md lo hi = (lo + hi) / 2 ∧ md1 lo hi = (lo + hi) / 2 + 1 ∧ (l ≤ localF p s (md lo hi) → In p s l m lo (md lo hi)) ∧ (¬ l ≤ localF p s (md lo hi) → In p s l m (md1 lo hi) hi) := by
  obtain ⟨h0, h1, h2, h3, h4⟩ := h
  cases k with
  | zero => simp at h3; omega
  | succ m =>
    have hm := md_eq h0 h1 h2
    have hm1 : md1 lo hi = (lo + hi) / 2 + 1 := by unfold md1; rw [hm, wi64 _ (by omega) (by omega)]
    rw [Int.pow_succ] at h3
    refine ⟨m, rfl, hm, hm1, fun hl => ?_, fun hl => ?_⟩
    · rw [hm] at hl ⊢
      refine ⟨h0, by omega, by omega, by omega, ?_⟩
      rw [← h4]; simp only [bsF]; rw [if_pos hlt, if_pos hl]
    · rw [hm] at hl
      rw [hm1]
      refine ⟨by omega, by omega, by omega, by omega, ?_⟩
      rw [← h4]; simp only [bsF]; rw [if_pos hlt, if_neg hl]
theorem in_end {p s l : Int} {k : Nat} {lo hi : Int} (h : In p s l k lo hi) (hlt : ¬ lo < hi) : lo = realF p s l := by
  obtain ⟨h0, h1, h2, h3, h4⟩ := h
  cases k with
  | zero => exact h4
  | succ m => rw [← h4]; simp only [bsF]; rw [if_neg hlt]
def realCt : Ct ElC := fun | [.agg [.v (.int .i64 p), .v (.int .i64 s)], .v (.int .i64 t)] => some ([], .v (.int .i64 (realF p s t)), []) | _ => none
theorem realCt_spec {args : List (AV ElC)} {r} (h : realCt args = some r) : ∃ p s t, args = [ck p s, i t] ∧ r = ([], i (realF p s t), []) := by
  unfold realCt at h
  split at h
  · cases h; exact ⟨_, _, _, rfl, rfl⟩
  · cases h
theorem real15 : CtOk C3 15 realCt := by
  refine ct_of_fun ok3 3 fun args ps r news h hp => ?_
  obtain ⟨p, s, l, rfl, hr⟩ := realCt_spec h
  cases hr
  refine (to15 p s l (G (i (realF p s l)))).mpr (ev_loop2 (evFun_mono C3 2) [5, 6, 7] (fun k st => ∃ lo hi, st = st15 p s l lo hi ∧ In p s l k lo hi) 41 ⟨rfl, _, _, rfl, in0 p s l⟩ ?_)
  rintro k _ ⟨lo, hi, rfl, hI⟩
  refine (step15 p s l lo hi _ _).mpr ⟨fun hlt => ⟨⟨by decide⟩, fun hl => ⟨rfl, ?_⟩, fun hl => ⟨rfl, ?_⟩⟩, fun hlt => ?_⟩
  · obtain ⟨m, rfl, _, _, h1, _⟩ := in_step hI (of_decide_eq_true hlt)
    exact ⟨m, by omega, _, _, rfl, h1 (of_decide_eq_true hl)⟩
  · obtain ⟨m, rfl, _, _, _, h1⟩ := in_step hI (of_decide_eq_true hlt)
    exact ⟨m, by omega, _, _, rfl, h1 (of_decide_eq_false hl)⟩
  · rw [← in_end hI (of_decide_eq_false hlt)]
    exact ⟨rfl, rfl⟩
theorem real16 : CtOk C3 16 realCt := by
  refine ct_of_fun ok3 3 fun args ps r news h hp => ?_
  obtain ⟨p, s, l, rfl, hr⟩ := realCt_spec h
  cases hr
  refine (to16 p s l (G (i (realF p s l)))).mpr (ev_loop2 (evFun_mono C3 2) [1, 2, 5, 6] (fun k st => ∃ lo hi, st = st16 p s l lo hi ∧ In p s l k lo hi) 41 ⟨rfl, _, _, rfl, in0 p s l⟩ ?_)
  rintro k _ ⟨lo, hi, rfl, hI⟩
  refine (step16 p s l lo hi _ _).mpr ⟨fun hlt => ⟨⟨by decide⟩, fun hl => ⟨rfl, ?_⟩, fun hl => ⟨rfl, ?_⟩⟩, fun hlt => ?_⟩
  · obtain ⟨m, rfl, _, _, h1, _⟩ := in_step hI (of_decide_eq_true hlt)
    exact ⟨m, by omega, _, _, rfl, h1 (of_decide_eq_true hl)⟩
  · obtain ⟨m, rfl, _, _, _, h1⟩ := in_step hI (of_decide_eq_true hlt)
    exact ⟨m, by omega, _, _, rfl, h1 (of_decide_eq_false hl)⟩
  · rw [← in_end hI (of_decide_eq_false hlt)]
    exact ⟨rfl, rfl⟩
#print axioms real16
end Go.Aw.Clock
