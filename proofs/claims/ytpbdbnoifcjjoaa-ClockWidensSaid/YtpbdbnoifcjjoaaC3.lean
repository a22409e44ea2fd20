/- Contracts of Check, Local and Widening, the program's and the document's. -/
import Derived.Test.YtpbdbnoifcjjoaaC2
set_option linter.unusedVariables false
namespace Go.Aw.Clock
open Go.Aw Go.Proofs
noncomputable def C2 : Cx := { P := Try.prog, S := S, T := fun n => match n with | 19 => some limCt | 20 => some lim2Ct | _ => none, eqT := fun _ => false, F := fun n => match n with | 11 => some Try.f11 | 12 => some Try.f12 | 13 => some Try.f13 | 14 => some Try.f14 | 17 => some Try.f17 | 18 => some Try.f18 | _ => none }
theorem ok2 : CxOk C2 := by
  refine ⟨sigOk, (fun t h => by cases h), (fun f ct h => ?_), (fun f ct h => ?_), fun f fn h => ?_, mixed⟩
  · simp only [C2] at h
    split at h
    · cases h; exact lim_ok
    · cases h; exact lim2_ok
    · cases h
  · simp only [C2] at h
    split at h
    · cases h; exact ⟨_, Try.func19, by kernel_rfl, by kernel_rfl⟩
    · cases h; exact ⟨_, Try.func20, by kernel_rfl, by kernel_rfl⟩
    · cases h
  · simp only [C2] at h
    split at h
    · cases h; exact ⟨Try.func11, by kernel_rfl⟩
    · cases h; exact ⟨Try.func12, by kernel_rfl⟩
    · cases h; exact ⟨Try.func13, by kernel_rfl⟩
    · cases h; exact ⟨Try.func14, by kernel_rfl⟩
    · cases h; exact ⟨Try.func17, by kernel_rfl⟩
    · cases h; exact ⟨Try.func18, by kernel_rfl⟩
    · cases h
def ck (p s : Int) : AV ElC := .agg [i p, i s]
def localCt : Ct ElC := fun | [.agg [.v (.int .i64 p), .v (.int .i64 s)], .v (.int .i64 t)] => some ([], .v (.int .i64 (localF p s t)), []) | _ => none
theorem localCt_spec {args : List (AV ElC)} {r} (h : localCt args = some r) : ∃ p s t, args = [ck p s, i t] ∧ r = ([], i (localF p s t), []) := by
  unfold localCt at h
  split at h
  · cases h; exact ⟨_, _, _, rfl, rfl⟩
  · cases h
def checkCt : Ct ElC := fun | [.agg [.v (.int .i64 p), .v (.int .i64 s)]] => some ([], .v (.int .i64 (checkF p s)), []) | _ => none
theorem checkCt_spec {args : List (AV ElC)} {r} (h : checkCt args = some r) : ∃ p s, args = [ck p s] ∧ r = ([], i (checkF p s), []) := by
  unfold checkCt at h
  split at h
  · cases h; exact ⟨_, _, rfl, rfl⟩
  · cases h
def widCt : Ct ElC := fun | [.v (.int .i64 p), .v (.int .i64 n)] => some ([], .v (.int .i64 (widF p n)), []) | _ => none
theorem widCt_spec {args : List (AV ElC)} {r} (h : widCt args = some r) : ∃ p n, args = [i p, i n] ∧ r = ([], i (widF p n), []) := by
  unfold widCt at h
  split at h
  · cases h; exact ⟨_, _, rfl, rfl⟩
  · cases h
abbrev G (r : AV ElC) : AV ElC → List (AObj ElC) → Prop := fun r' H' => Gives r' H' r []
def Hc (p s : Int) : List (AObj ElC) := [.cells [i p, i s]]
def pr (t p : Int) : Int := IntKind.i64.wrap (minI (maxI t 0) 1099511627776 * minI (maxI p (-500)) 500)
def l1 (p s t : Int) : Int := IntKind.i64.wrap (IntKind.i64.wrap (minI (maxI s 0) 1099511627776 + minI (maxI t 0) 1099511627776) + IntKind.i64.wrap (IntKind.i64.wrap ((pr t p).tdiv 1000000) - 1))
def l2 (p s t : Int) : Int := IntKind.i64.wrap (IntKind.i64.wrap (minI (maxI s 0) 1099511627776 + minI (maxI t 0) 1099511627776) + IntKind.i64.wrap ((pr t p).tdiv 1000000))
theorem local13 : CtOk C2 13 localCt := by
  refine ct_of_fun ok2 3 fun args ps r news h hp => ?_
  obtain ⟨p, s, t, rfl, hr⟩ := localCt_spec h
  cases hr
  have : evFun C2 3 13 [ck p s, i t] [] (G (i (localF p s t))) = (Ob ((1000000 : Int) ≠ 0) ∧ Ob ((1000000 : Int) ≠ 0) ∧ ((decide ((pr t p).tmod 1000000 < 0) = true → G (i (localF p s t)) (i (l1 p s t)) (Hc p s)) ∧ (decide ((pr t p).tmod 1000000 < 0) = false → G (i (localF p s t)) (i (l2 p s t)) (Hc p s)))) := by kernel_rfl
  refine this.mpr ⟨⟨by decide⟩, ⟨by decide⟩, fun h => ?_, fun h => ?_⟩
  · rw [show l1 p s t = localF p s t from local_a p s t (of_decide_eq_true h)]; exact ⟨rfl, rfl⟩
  · rw [show l2 p s t = localF p s t from local_b p s t (of_decide_eq_false h)]; exact ⟨rfl, rfl⟩
theorem local14 : CtOk C2 14 localCt := by
  refine ct_of_fun ok2 3 fun args ps r news h hp => ?_
  obtain ⟨p, s, t, rfl, hr⟩ := localCt_spec h
  cases hr
  have : evFun C2 3 14 [ck p s, i t] [] (G (i (localF p s t))) = (Ob ((1000000 : Int) ≠ 0) ∧ Ob ((1000000 : Int) ≠ 0) ∧ ((decide ((pr t p).tmod 1000000 < 0) = true → G (i (localF p s t)) (i (l1 p s t)) (Hc p s)) ∧ (decide ((pr t p).tmod 1000000 < 0) = false → G (i (localF p s t)) (i (l2 p s t)) (Hc p s)))) := by kernel_rfl
  refine this.mpr ⟨⟨by decide⟩, ⟨by decide⟩, fun h => ?_, fun h => ?_⟩
  · rw [show l1 p s t = localF p s t from local_a p s t (of_decide_eq_true h)]; exact ⟨rfl, rfl⟩
  · rw [show l2 p s t = localF p s t from local_b p s t (of_decide_eq_false h)]; exact ⟨rfl, rfl⟩
theorem wid17 : CtOk C2 17 widCt := by
  refine ct_of_fun ok2 3 fun args ps r news h hp => ?_
  obtain ⟨p, n, rfl, hr⟩ := widCt_spec h
  cases hr
  have : evFun C2 3 17 [i p, i n] [] (G (i (widF p n))) = (Ob ((1000000 : Int) ≠ 0) ∧ G (i (widF p n)) (i (IntKind.i64.wrap (IntKind.i64.wrap ((IntKind.i64.wrap (IntKind.i64.wrap (IntKind.i64.wrap (minI (maxI n 0) 1099511627776 * minI (maxI p 0) 1000) + 1000000) - 1)).tdiv 1000000) + 32))) []) := by kernel_rfl
  refine this.mpr ⟨⟨by decide⟩, ?_⟩
  rw [show IntKind.i64.wrap (IntKind.i64.wrap ((IntKind.i64.wrap (IntKind.i64.wrap (IntKind.i64.wrap (minI (maxI n 0) 1099511627776 * minI (maxI p 0) 1000) + 1000000) - 1)).tdiv 1000000) + 32) = widF p n by
    simp only [minI_eq, maxI_eq]
    rw [show min (max n 0) 1099511627776 = clT n from rfl, show min (max p 0) 1000 = clW p from rfl]
    unfold widF
    have h1 := prodW n p
    generalize clT n * clW p = x at *
    rw [wi64 x (by omega) (by omega), wi64 (x + 1000000) (by omega) (by omega), wi64 (x + 1000000 - 1) (by omega) (by omega), Int.tdiv_eq_ediv_of_nonneg (by omega), wi64 ((x + 1000000 - 1) / 1000000) (by omega) (by omega), wi64 _ (by omega) (by omega)]
    omega]
  exact ⟨rfl, rfl⟩
def w18 (n p : Int) : Int := IntKind.i64.wrap (minI (maxI n 0) 1099511627776 * minI (maxI p 0) 1000)
theorem wid18 : CtOk C2 18 widCt := by
  refine ct_of_fun ok2 3 fun args ps r news h hp => ?_
  obtain ⟨p, n, rfl, hr⟩ := widCt_spec h
  cases hr
  have : evFun C2 3 18 [i p, i n] [] (G (i (widF p n))) = (Ob ((1000000 : Int) ≠ 0) ∧ Ob ((1000000 : Int) ≠ 0) ∧ ((decide (0 < (w18 n p).tmod 1000000) = true → G (i (widF p n)) (i (IntKind.i64.wrap (IntKind.i64.wrap (IntKind.i64.wrap ((w18 n p).tdiv 1000000) + 1) + 32))) []) ∧
    (decide (0 < (w18 n p).tmod 1000000) = false → G (i (widF p n)) (i (IntKind.i64.wrap (IntKind.i64.wrap ((w18 n p).tdiv 1000000) + 32))) []))) := by kernel_rfl
  have hx : w18 n p = clT n * clW p := by
    unfold w18
    simp only [minI_eq, maxI_eq]
    rw [show min (max n 0) 1099511627776 = clT n from rfl, show min (max p 0) 1000 = clW p from rfl]
    have h1 := prodW n p
    rw [wi64 _ (by omega) (by omega)]
  rw [hx] at this
  have h1 := prodW n p
  refine this.mpr ⟨⟨by decide⟩, ⟨by decide⟩, fun h => ?_, fun h => ?_⟩
  · have h := of_decide_eq_true h
    unfold widF
    generalize clT n * clW p = x at *
    rw [Int.tmod_eq_emod_of_nonneg (by omega)] at h
    rw [Int.tdiv_eq_ediv_of_nonneg (by omega), wi64 (x / 1000000) (by omega) (by omega), wi64 (x / 1000000 + 1) (by omega) (by omega), wi64 _ (by omega) (by omega), show (x + 999999) / 1000000 = x / 1000000 + 1 by omega]; exact ⟨rfl, rfl⟩
  · have h := of_decide_eq_false h
    unfold widF
    generalize clT n * clW p = x at *
    rw [Int.tmod_eq_emod_of_nonneg (by omega)] at h
    rw [Int.tdiv_eq_ediv_of_nonneg (by omega), wi64 (x / 1000000) (by omega) (by omega), wi64 _ (by omega) (by omega), show (x + 999999) / 1000000 = x / 1000000 by omega]; exact ⟨rfl, rfl⟩
end Go.Aw.Clock
