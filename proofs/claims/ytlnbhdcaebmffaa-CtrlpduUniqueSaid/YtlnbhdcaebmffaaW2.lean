/- Contracts of the seat (printed by ct.py). -/
import Derived.Test.YtlnbhdcaebmffaaW1
set_option linter.unusedVariables false
set_option linter.unusedSimpArgs false
set_option maxRecDepth 20000
set_option maxHeartbeats 1000000
namespace Go.Aw.W
open Go Go.Aw Go.Proofs
attribute [local irreducible] evCode evFun evOps evDs evOne ctxK loopK loopB subC bodyC headS okH roundK

theorem sized_iff (n : Int) : (sized n = true) = (1 ≤ n ∧ n ≤ 8) := by simp [sized]
/-! wireless/wirelessref17.CheckUpdate -/
def r17CheckUpdate.res (r : Int) : AV El := .v (.int .i64 (r))
def r17CheckUpdate.news (r : Int) : List (AObj El) := []
def r17CheckUpdate.L (e v : Int) : Prop := r17CheckUpdate.res e = r17CheckUpdate.res v ∧ r17CheckUpdate.news e = r17CheckUpdate.news v
def r17CheckUpdate (u : Update) : Int := cond (bif bif bif bif !r17within u.WinSize 1 8 then true else !r17within u.WinOffset 0 3200 then true else !r17within u.Interval 6 3200 then true else !r17within u.Latency 0 499 then true else !r17within u.Timeout 10 3200) (5) (cond (bif bif decide (u.Interval ≤ u.WinSize) then true else decide (u.Interval < u.WinOffset) then true else decide (IntKind.wrap IntKind.i64 (u.Timeout * 10000) ≤ IntKind.wrap IntKind.i64 (IntKind.wrap IntKind.i64 (IntKind.wrap IntKind.i64 (2 * IntKind.wrap IntKind.i64 (u.Latency + 1)) * u.Interval) * 1250))) (11) (0))
def r17CheckUpdate.dec (cs : List (AV El)) : Option (Update) := popA Update.dec cs fun a0 c0 => popE c0 a0
def r17CheckUpdate.enc (x : Update) : List (AV El) := [Update.av x]
theorem r17CheckUpdate.dec_ok : ∀ cs x, r17CheckUpdate.dec cs = some x → Imp (S := S) cs (r17CheckUpdate.enc x) := by
  intro cs x h
  unfold r17CheckUpdate.dec at h
  obtain ⟨a0, c0, h0, k0⟩ := popA_some (S := S) Update.dec_ok h
  obtain ⟨rfl, rfl⟩ := popE_some (S := S) h0
  exact (k0 _ (.refl _))
def r17CheckUpdate.nf (u : Update) (v : Int) : Prop := Ob (o3 (!!r17within u.WinSize 1 8)) ∧ (Ob (o3 (!!r17within u.WinSize 1 8)) ∧ (Ob (o3 (!!r17within u.WinSize 1 8)) ∧ (Ob (on (!r17within u.WinSize 1 8)) ∧ (Ob (o3 (!bif !r17within u.WinSize 1 8 then true else !r17within u.WinOffset 0 3200)) ∧ (Ob (o3 (!bif !r17within u.WinSize 1 8 then true else !r17within u.WinOffset 0 3200)) ∧ (Ob (o3 (!bif !r17within u.WinSize 1 8 then true else !r17within u.WinOffset 0 3200)) ∧ (Ob (on (bif !r17within u.WinSize 1 8 then true else !r17within u.WinOffset 0 3200)) ∧ (Ob (o3 (!bif bif !r17within u.WinSize 1 8 then true else !r17within u.WinOffset 0 3200 then true else !r17within u.Interval 6 3200)) ∧ (Ob (o3 (!bif bif !r17within u.WinSize 1 8 then true else !r17within u.WinOffset 0 3200 then true else !r17within u.Interval 6 3200)) ∧ (Ob (o3 (!bif bif !r17within u.WinSize 1 8 then true else !r17within u.WinOffset 0 3200 then true else !r17within u.Interval 6 3200)) ∧ (Ob (on (bif bif !r17within u.WinSize 1 8 then true else !r17within u.WinOffset 0 3200 then true else !r17within u.Interval 6 3200)) ∧ (Ob (o3 (!bif bif bif !r17within u.WinSize 1 8 then true else !r17within u.WinOffset 0 3200 then true else !r17within u.Interval 6 3200 then true else !r17within u.Latency 0 499)) ∧ (Ob (o3 (!bif bif bif !r17within u.WinSize 1 8 then true else !r17within u.WinOffset 0 3200 then true else !r17within u.Interval 6 3200 then true else !r17within u.Latency 0 499)) ∧ (Ob (o3 (!bif bif bif !r17within u.WinSize 1 8 then true else !r17within u.WinOffset 0 3200 then true else !r17within u.Interval 6 3200 then true else !r17within u.Latency 0 499)) ∧ (Ob (on (bif bif bif !r17within u.WinSize 1 8 then true else !r17within u.WinOffset 0 3200 then true else !r17within u.Interval 6 3200 then true else !r17within u.Latency 0 499)) ∧ (cond (bif bif bif bif !r17within u.WinSize 1 8 then true else !r17within u.WinOffset 0 3200 then true else !r17within u.Interval 6 3200 then true else !r17within u.Latency 0 499 then true else !r17within u.Timeout 10 3200) (r17CheckUpdate.L (5) v) (Ob (o3 (!decide (u.Interval ≤ u.WinSize))) ∧ (Ob (o3 (!decide (u.Interval ≤ u.WinSize))) ∧ (Ob (o3 (!decide (u.Interval ≤ u.WinSize))) ∧ (Ob (o3 (!decide (u.Interval ≤ u.WinSize))) ∧ (Ob (on (decide (u.Interval ≤ u.WinSize))) ∧ (Ob (o3 (!bif decide (u.Interval ≤ u.WinSize) then true else decide (u.Interval < u.WinOffset))) ∧ (Ob (o3 (!bif decide (u.Interval ≤ u.WinSize) then true else decide (u.Interval < u.WinOffset))) ∧ (Ob (o3 (!bif decide (u.Interval ≤ u.WinSize) then true else decide (u.Interval < u.WinOffset))) ∧ (Ob (o3 (!bif decide (u.Interval ≤ u.WinSize) then true else decide (u.Interval < u.WinOffset))) ∧ (Ob (o3 (!bif decide (u.Interval ≤ u.WinSize) then true else decide (u.Interval < u.WinOffset))) ∧ (Ob (o3 (!bif decide (u.Interval ≤ u.WinSize) then true else decide (u.Interval < u.WinOffset))) ∧ (Ob (o3 (!bif decide (u.Interval ≤ u.WinSize) then true else decide (u.Interval < u.WinOffset))) ∧ (Ob (o3 (!bif decide (u.Interval ≤ u.WinSize) then true else decide (u.Interval < u.WinOffset))) ∧ (Ob (o3 (!bif decide (u.Interval ≤ u.WinSize) then true else decide (u.Interval < u.WinOffset))) ∧ (Ob (o3 (!bif decide (u.Interval ≤ u.WinSize) then true else decide (u.Interval < u.WinOffset))) ∧ (Ob (o3 (!bif decide (u.Interval ≤ u.WinSize) then true else decide (u.Interval < u.WinOffset))) ∧ (Ob (on (bif decide (u.Interval ≤ u.WinSize) then true else decide (u.Interval < u.WinOffset))) ∧ (cond (bif bif decide (u.Interval ≤ u.WinSize) then true else decide (u.Interval < u.WinOffset) then true else decide (IntKind.wrap IntKind.i64 (u.Timeout * 10000) ≤ IntKind.wrap IntKind.i64 (IntKind.wrap IntKind.i64 (IntKind.wrap IntKind.i64 (2 * IntKind.wrap IntKind.i64 (u.Latency + 1)) * u.Interval) * 1250))) (r17CheckUpdate.L (11) v) (r17CheckUpdate.L (0) v)))))))))))))))))))))))))))))))))))
theorem r17CheckUpdate.nf_ok (u : Update) (v : Int) : evFun (mkCx Try.prog S tab_cUpd 0) 4 37 [Update.av u] [] (fun r' H' => Gives r' H' (r17CheckUpdate.res v) (r17CheckUpdate.news v)) = r17CheckUpdate.nf u v := by kernel_rfl
theorem r17CheckUpdate.key (u : Update) (v : Int) (hv : v = r17CheckUpdate u) : r17CheckUpdate.nf u v := by
  unfold r17CheckUpdate at hv
  unfold r17CheckUpdate.nf
  refine ⟨⟨o3_ok _⟩, ?_⟩
  refine ⟨⟨o3_ok _⟩, ?_⟩
  refine ⟨⟨o3_ok _⟩, ?_⟩
  refine ⟨⟨on_ok _⟩, ?_⟩
  refine ⟨⟨o3_ok _⟩, ?_⟩
  refine ⟨⟨o3_ok _⟩, ?_⟩
  refine ⟨⟨o3_ok _⟩, ?_⟩
  refine ⟨⟨on_ok _⟩, ?_⟩
  refine ⟨⟨o3_ok _⟩, ?_⟩
  refine ⟨⟨o3_ok _⟩, ?_⟩
  refine ⟨⟨o3_ok _⟩, ?_⟩
  refine ⟨⟨on_ok _⟩, ?_⟩
  refine ⟨⟨o3_ok _⟩, ?_⟩
  refine ⟨⟨o3_ok _⟩, ?_⟩
  refine ⟨⟨o3_ok _⟩, ?_⟩
  refine ⟨⟨on_ok _⟩, ?_⟩
  revert hv; refine by_cond2 (fun hb hv => ?_) (fun hb hv => ?_)
  · subst hv; exact ⟨rfl, rfl⟩
  · refine ⟨⟨o3_ok _⟩, ?_⟩
    refine ⟨⟨o3_ok _⟩, ?_⟩
    refine ⟨⟨o3_ok _⟩, ?_⟩
    refine ⟨⟨o3_ok _⟩, ?_⟩
    refine ⟨⟨on_ok _⟩, ?_⟩
    refine ⟨⟨o3_ok _⟩, ?_⟩
    refine ⟨⟨o3_ok _⟩, ?_⟩
    refine ⟨⟨o3_ok _⟩, ?_⟩
    refine ⟨⟨o3_ok _⟩, ?_⟩
    refine ⟨⟨o3_ok _⟩, ?_⟩
    refine ⟨⟨o3_ok _⟩, ?_⟩
    refine ⟨⟨o3_ok _⟩, ?_⟩
    refine ⟨⟨o3_ok _⟩, ?_⟩
    refine ⟨⟨o3_ok _⟩, ?_⟩
    refine ⟨⟨o3_ok _⟩, ?_⟩
    refine ⟨⟨o3_ok _⟩, ?_⟩
    refine ⟨⟨on_ok _⟩, ?_⟩
    revert hv; refine by_cond2 (fun hb hv => ?_) (fun hb hv => ?_)
    · subst hv; exact ⟨rfl, rfl⟩
    · subst hv; exact ⟨rfl, rfl⟩
def r17CheckUpdate.ct : Ct El := ctOf r17CheckUpdate.dec (fun _ => []) (fun x => r17CheckUpdate.res (r17CheckUpdate x)) (fun x => r17CheckUpdate.news (r17CheckUpdate x))
theorem r17CheckUpdate.ok : CtOk (mkCx Try.prog S [] 0) 37 r17CheckUpdate.ct := ct_mk (C := (mkCx Try.prog S tab_cUpd 0)) (mkCx_ok sigOk mixed tab_cUpd_ok 0) r17CheckUpdate.dec_ok (fun x => rfl) 4 (fun x _ => (r17CheckUpdate.nf_ok x _).mpr (r17CheckUpdate.key x _ rfl))
def tab_r17CheckUpdate : List (FuncId × Ct El) := (37, r17CheckUpdate.ct) :: tab_cUpd
theorem tab_r17CheckUpdate_ok : TabOk Try.prog S tab_r17CheckUpdate := ⟨r17CheckUpdate.ok, by kernel_rfl, tab_cUpd_ok⟩

/-! wireless/wirelessref26.size -/
def r26size.res (r : Int) : AV El := .v (.int .i64 (r))
def r26size.news (r : Int) : List (AObj El) := []
def r26size.L (e v : Int) : Prop := r26size.res e = r26size.res v ∧ r26size.news e = r26size.news v
def r26size (kind : Int) : Int := cond (kind == 0) (IntKind.wrap IntKind.i64 (IntKind.wrap IntKind.i64 ((1 : Int) + (9 : Int)) + (2 : Int))) (cond (kind == 1) (IntKind.wrap IntKind.i64 (IntKind.wrap IntKind.i64 ((1 : Int) + (5 : Int)) + (2 : Int))) (cond (kind == 2) (IntKind.wrap IntKind.i64 ((1 : Int) + (1 : Int))) (cond (kind == 3) (IntKind.wrap IntKind.i64 (IntKind.wrap IntKind.i64 ((1 : Int) + (8 : Int)) + (8 : Int))) (cond (kind == 4) (IntKind.wrap IntKind.i64 ((1 : Int) + (8 : Int))) (cond (kind == 5) (1) (cond (kind == 6) (1) (cond (kind == 18) (1) (cond (kind == 19) (1) (cond (kind == 7) (IntKind.wrap IntKind.i64 ((1 : Int) + (1 : Int))) (cond (kind == 8) (IntKind.wrap IntKind.i64 ((1 : Int) + (8 : Int))) (cond (kind == 9) (IntKind.wrap IntKind.i64 ((1 : Int) + (8 : Int))) (cond (kind == 12) (IntKind.wrap IntKind.i64 ((1 : Int) + (1 : Int))) (cond (kind == 13) (IntKind.wrap IntKind.i64 (IntKind.wrap IntKind.i64 ((1 : Int) + (1 : Int)) + (1 : Int))) (cond (kind == 15) (IntKind.wrap IntKind.i64 ((1 : Int) + (9 : Int))) (cond (kind == 20) (IntKind.wrap IntKind.i64 ((1 : Int) + (1 : Int))) (cond (kind == 21) (IntKind.wrap IntKind.i64 ((1 : Int) + (1 : Int))) (1)))))))))))))))))
def r26size.dec (cs : List (AV El)) : Option (Int) := popI .i64 cs fun a0 c0 => popE c0 a0
def r26size.enc (x : Int) : List (AV El) := [.v (.int .i64 x)]
theorem r26size.dec_ok : ∀ cs x, r26size.dec cs = some x → Imp (S := S) cs (r26size.enc x) := by
  intro cs x h
  unfold r26size.dec at h
  obtain ⟨a0, c0, rfl, h0⟩ := popI_some (S := S) h
  obtain ⟨rfl, rfl⟩ := popE_some (S := S) h0
  exact (.cons (.refl _))
def r26size.nf (kind : Int) (v : Int) : Prop := cond (kind == 0) (Ob (o3 (true)) ∧ (Ob (false = false → true = true) ∧ (Ob (o3 (true)) ∧ (Ob (false = false → true = true) ∧ (Ob (o3 (true)) ∧ (Ob (false = false → true = true) ∧ (r26size.L (IntKind.wrap IntKind.i64 (IntKind.wrap IntKind.i64 ((1 : Int) + (9 : Int)) + (2 : Int))) v))))))) (cond (kind == 1) (Ob (o3 (true)) ∧ (Ob (false = false → true = true) ∧ (Ob (o3 (true)) ∧ (Ob (false = false → true = true) ∧ (Ob (o3 (true)) ∧ (Ob (false = false → true = true) ∧ (r26size.L (IntKind.wrap IntKind.i64 (IntKind.wrap IntKind.i64 ((1 : Int) + (5 : Int)) + (2 : Int))) v))))))) (cond (kind == 2) (Ob (o3 (false)) ∧ (Ob (true = false → false = true) ∧ (Ob (o3 (false)) ∧ (Ob (true = false → false = true) ∧ (Ob (o3 (true)) ∧ (Ob (false = false → true = true) ∧ (r26size.L (IntKind.wrap IntKind.i64 ((1 : Int) + (1 : Int))) v))))))) (cond (kind == 3) (Ob (o3 (true)) ∧ (Ob (false = false → true = true) ∧ (Ob (o3 (true)) ∧ (Ob (false = false → true = true) ∧ (Ob (o3 (false)) ∧ (Ob (true = false → false = true) ∧ (r26size.L (IntKind.wrap IntKind.i64 (IntKind.wrap IntKind.i64 ((1 : Int) + (8 : Int)) + (8 : Int))) v))))))) (cond (kind == 4) (Ob (o3 (true)) ∧ (Ob (false = false → true = true) ∧ (Ob (o3 (true)) ∧ (Ob (false = false → true = true) ∧ (Ob (o3 (false)) ∧ (Ob (true = false → false = true) ∧ (r26size.L (IntKind.wrap IntKind.i64 ((1 : Int) + (8 : Int))) v))))))) (cond (kind == 5) (Ob (o3 (true)) ∧ (Ob (false = false → true = true) ∧ (Ob (o3 (true)) ∧ (Ob (false = false → true = true) ∧ (Ob (o3 (true)) ∧ (Ob (false = false → true = true) ∧ (r26size.L (1) v))))))) (cond (kind == 6) (Ob (o3 (true)) ∧ (Ob (false = false → true = true) ∧ (Ob (o3 (true)) ∧ (Ob (false = false → true = true) ∧ (Ob (o3 (true)) ∧ (Ob (false = false → true = true) ∧ (r26size.L (1) v))))))) (cond (kind == 18) (Ob (o3 (true)) ∧ (Ob (false = false → true = true) ∧ (Ob (o3 (true)) ∧ (Ob (false = false → true = true) ∧ (Ob (o3 (true)) ∧ (Ob (false = false → true = true) ∧ (r26size.L (1) v))))))) (cond (kind == 19) (Ob (o3 (true)) ∧ (Ob (false = false → true = true) ∧ (Ob (o3 (true)) ∧ (Ob (false = false → true = true) ∧ (Ob (o3 (true)) ∧ (Ob (false = false → true = true) ∧ (r26size.L (1) v))))))) (cond (kind == 7) (Ob (o3 (true)) ∧ (Ob (false = false → true = true) ∧ (Ob (o3 (true)) ∧ (Ob (false = false → true = true) ∧ (Ob (o3 (true)) ∧ (Ob (false = false → true = true) ∧ (r26size.L (IntKind.wrap IntKind.i64 ((1 : Int) + (1 : Int))) v))))))) (cond (kind == 8) (Ob (o3 (true)) ∧ (Ob (false = false → true = true) ∧ (Ob (o3 (true)) ∧ (Ob (false = false → true = true) ∧ (Ob (o3 (true)) ∧ (Ob (false = false → true = true) ∧ (r26size.L (IntKind.wrap IntKind.i64 ((1 : Int) + (8 : Int))) v))))))) (cond (kind == 9) (Ob (o3 (true)) ∧ (Ob (false = false → true = true) ∧ (Ob (o3 (true)) ∧ (Ob (false = false → true = true) ∧ (Ob (o3 (true)) ∧ (Ob (false = false → true = true) ∧ (r26size.L (IntKind.wrap IntKind.i64 ((1 : Int) + (8 : Int))) v))))))) (cond (kind == 12) (Ob (o3 (true)) ∧ (Ob (false = false → true = true) ∧ (Ob (o3 (false)) ∧ (Ob (true = false → false = true) ∧ (Ob (o3 (true)) ∧ (Ob (false = false → true = true) ∧ (r26size.L (IntKind.wrap IntKind.i64 ((1 : Int) + (1 : Int))) v))))))) (cond (kind == 13) (Ob (o3 (false)) ∧ (Ob (true = false → false = true) ∧ (Ob (o3 (false)) ∧ (Ob (true = false → false = true) ∧ (Ob (o3 (true)) ∧ (Ob (false = false → true = true) ∧ (r26size.L (IntKind.wrap IntKind.i64 (IntKind.wrap IntKind.i64 ((1 : Int) + (1 : Int)) + (1 : Int))) v))))))) (cond (kind == 15) (Ob (o3 (true)) ∧ (Ob (false = false → true = true) ∧ (Ob (o3 (true)) ∧ (Ob (false = false → true = true) ∧ (Ob (o3 (true)) ∧ (Ob (false = false → true = true) ∧ (r26size.L (IntKind.wrap IntKind.i64 ((1 : Int) + (9 : Int))) v))))))) (cond (kind == 20) (Ob (o3 (true)) ∧ (Ob (false = false → true = true) ∧ (Ob (o3 (true)) ∧ (Ob (false = false → true = true) ∧ (Ob (o3 (true)) ∧ (Ob (false = false → true = true) ∧ (r26size.L (IntKind.wrap IntKind.i64 ((1 : Int) + (1 : Int))) v))))))) (cond (kind == 21) (Ob (o3 (true)) ∧ (Ob (false = false → true = true) ∧ (Ob (o3 (true)) ∧ (Ob (false = false → true = true) ∧ (Ob (o3 (true)) ∧ (Ob (false = false → true = true) ∧ (r26size.L (IntKind.wrap IntKind.i64 ((1 : Int) + (1 : Int))) v))))))) (Ob (o3 (true)) ∧ (Ob (false = false → true = true) ∧ (Ob (o3 (true)) ∧ (Ob (false = false → true = true) ∧ (Ob (o3 (true)) ∧ (Ob (false = false → true = true) ∧ (r26size.L (1) v)))))))))))))))))))))))
theorem r26size.nf_ok (kind : Int) (v : Int) : evFun (mkCx Try.prog S tab_cUpd 0) 4 44 [.v (.int .i64 kind)] [] (fun r' H' => Gives r' H' (r26size.res v) (r26size.news v)) = r26size.nf kind v := by kernel_rfl
theorem r26size.key (kind : Int) (v : Int) (hv : v = r26size kind) : r26size.nf kind v := by
  unfold r26size at hv
  unfold r26size.nf
  revert hv; refine by_cond2 (fun hb hv => ?_) (fun hb hv => ?_)
  refine ⟨⟨o3_ok _⟩, ?_⟩
  refine ⟨⟨?_⟩, ?_⟩; rotate_left
  refine ⟨⟨o3_ok _⟩, ?_⟩
  refine ⟨⟨?_⟩, ?_⟩; rotate_left
  refine ⟨⟨o3_ok _⟩, ?_⟩
  refine ⟨⟨?_⟩, ?_⟩; rotate_left
  subst hv; exact ⟨rfl, rfl⟩
  revert hv; refine by_cond2 (fun hb hv => ?_) (fun hb hv => ?_)
  refine ⟨⟨o3_ok _⟩, ?_⟩
  refine ⟨⟨?_⟩, ?_⟩; rotate_left
  refine ⟨⟨o3_ok _⟩, ?_⟩
  refine ⟨⟨?_⟩, ?_⟩; rotate_left
  refine ⟨⟨o3_ok _⟩, ?_⟩
  refine ⟨⟨?_⟩, ?_⟩; rotate_left
  subst hv; exact ⟨rfl, rfl⟩
  revert hv; refine by_cond2 (fun hb hv => ?_) (fun hb hv => ?_)
  refine ⟨⟨o3_ok _⟩, ?_⟩
  refine ⟨⟨?_⟩, ?_⟩; rotate_left
  refine ⟨⟨o3_ok _⟩, ?_⟩
  refine ⟨⟨?_⟩, ?_⟩; rotate_left
  refine ⟨⟨o3_ok _⟩, ?_⟩
  refine ⟨⟨?_⟩, ?_⟩; rotate_left
  subst hv; exact ⟨rfl, rfl⟩
  revert hv; refine by_cond2 (fun hb hv => ?_) (fun hb hv => ?_)
  refine ⟨⟨o3_ok _⟩, ?_⟩
  refine ⟨⟨?_⟩, ?_⟩; rotate_left
  refine ⟨⟨o3_ok _⟩, ?_⟩
  refine ⟨⟨?_⟩, ?_⟩; rotate_left
  refine ⟨⟨o3_ok _⟩, ?_⟩
  refine ⟨⟨?_⟩, ?_⟩; rotate_left
  subst hv; exact ⟨rfl, rfl⟩
  revert hv; refine by_cond2 (fun hb hv => ?_) (fun hb hv => ?_)
  refine ⟨⟨o3_ok _⟩, ?_⟩
  refine ⟨⟨?_⟩, ?_⟩; rotate_left
  refine ⟨⟨o3_ok _⟩, ?_⟩
  refine ⟨⟨?_⟩, ?_⟩; rotate_left
  refine ⟨⟨o3_ok _⟩, ?_⟩
  refine ⟨⟨?_⟩, ?_⟩; rotate_left
  subst hv; exact ⟨rfl, rfl⟩
  revert hv; refine by_cond2 (fun hb hv => ?_) (fun hb hv => ?_)
  refine ⟨⟨o3_ok _⟩, ?_⟩
  refine ⟨⟨?_⟩, ?_⟩; rotate_left
  refine ⟨⟨o3_ok _⟩, ?_⟩
  refine ⟨⟨?_⟩, ?_⟩; rotate_left
  refine ⟨⟨o3_ok _⟩, ?_⟩
  refine ⟨⟨?_⟩, ?_⟩; rotate_left
  subst hv; exact ⟨rfl, rfl⟩
  revert hv; refine by_cond2 (fun hb hv => ?_) (fun hb hv => ?_)
  refine ⟨⟨o3_ok _⟩, ?_⟩
  refine ⟨⟨?_⟩, ?_⟩; rotate_left
  refine ⟨⟨o3_ok _⟩, ?_⟩
  refine ⟨⟨?_⟩, ?_⟩; rotate_left
  refine ⟨⟨o3_ok _⟩, ?_⟩
  refine ⟨⟨?_⟩, ?_⟩; rotate_left
  subst hv; exact ⟨rfl, rfl⟩
  revert hv; refine by_cond2 (fun hb hv => ?_) (fun hb hv => ?_)
  refine ⟨⟨o3_ok _⟩, ?_⟩
  refine ⟨⟨?_⟩, ?_⟩; rotate_left
  refine ⟨⟨o3_ok _⟩, ?_⟩
  refine ⟨⟨?_⟩, ?_⟩; rotate_left
  refine ⟨⟨o3_ok _⟩, ?_⟩
  refine ⟨⟨?_⟩, ?_⟩; rotate_left
  subst hv; exact ⟨rfl, rfl⟩
  revert hv; refine by_cond2 (fun hb hv => ?_) (fun hb hv => ?_)
  refine ⟨⟨o3_ok _⟩, ?_⟩
  refine ⟨⟨?_⟩, ?_⟩; rotate_left
  refine ⟨⟨o3_ok _⟩, ?_⟩
  refine ⟨⟨?_⟩, ?_⟩; rotate_left
  refine ⟨⟨o3_ok _⟩, ?_⟩
  refine ⟨⟨?_⟩, ?_⟩; rotate_left
  subst hv; exact ⟨rfl, rfl⟩
  revert hv; refine by_cond2 (fun hb hv => ?_) (fun hb hv => ?_)
  refine ⟨⟨o3_ok _⟩, ?_⟩
  refine ⟨⟨?_⟩, ?_⟩; rotate_left
  refine ⟨⟨o3_ok _⟩, ?_⟩
  refine ⟨⟨?_⟩, ?_⟩; rotate_left
  refine ⟨⟨o3_ok _⟩, ?_⟩
  refine ⟨⟨?_⟩, ?_⟩; rotate_left
  subst hv; exact ⟨rfl, rfl⟩
  revert hv; refine by_cond2 (fun hb hv => ?_) (fun hb hv => ?_)
  refine ⟨⟨o3_ok _⟩, ?_⟩
  refine ⟨⟨?_⟩, ?_⟩; rotate_left
  refine ⟨⟨o3_ok _⟩, ?_⟩
  refine ⟨⟨?_⟩, ?_⟩; rotate_left
  refine ⟨⟨o3_ok _⟩, ?_⟩
  refine ⟨⟨?_⟩, ?_⟩; rotate_left
  subst hv; exact ⟨rfl, rfl⟩
  revert hv; refine by_cond2 (fun hb hv => ?_) (fun hb hv => ?_)
  refine ⟨⟨o3_ok _⟩, ?_⟩
  refine ⟨⟨?_⟩, ?_⟩; rotate_left
  refine ⟨⟨o3_ok _⟩, ?_⟩
  refine ⟨⟨?_⟩, ?_⟩; rotate_left
  refine ⟨⟨o3_ok _⟩, ?_⟩
  refine ⟨⟨?_⟩, ?_⟩; rotate_left
  subst hv; exact ⟨rfl, rfl⟩
  revert hv; refine by_cond2 (fun hb hv => ?_) (fun hb hv => ?_)
  refine ⟨⟨o3_ok _⟩, ?_⟩
  refine ⟨⟨?_⟩, ?_⟩; rotate_left
  refine ⟨⟨o3_ok _⟩, ?_⟩
  refine ⟨⟨?_⟩, ?_⟩; rotate_left
  refine ⟨⟨o3_ok _⟩, ?_⟩
  refine ⟨⟨?_⟩, ?_⟩; rotate_left
  subst hv; exact ⟨rfl, rfl⟩
  revert hv; refine by_cond2 (fun hb hv => ?_) (fun hb hv => ?_)
  refine ⟨⟨o3_ok _⟩, ?_⟩
  refine ⟨⟨?_⟩, ?_⟩; rotate_left
  refine ⟨⟨o3_ok _⟩, ?_⟩
  refine ⟨⟨?_⟩, ?_⟩; rotate_left
  refine ⟨⟨o3_ok _⟩, ?_⟩
  refine ⟨⟨?_⟩, ?_⟩; rotate_left
  subst hv; exact ⟨rfl, rfl⟩
  revert hv; refine by_cond2 (fun hb hv => ?_) (fun hb hv => ?_)
  refine ⟨⟨o3_ok _⟩, ?_⟩
  refine ⟨⟨?_⟩, ?_⟩; rotate_left
  refine ⟨⟨o3_ok _⟩, ?_⟩
  refine ⟨⟨?_⟩, ?_⟩; rotate_left
  refine ⟨⟨o3_ok _⟩, ?_⟩
  refine ⟨⟨?_⟩, ?_⟩; rotate_left
  subst hv; exact ⟨rfl, rfl⟩
  revert hv; refine by_cond2 (fun hb hv => ?_) (fun hb hv => ?_)
  refine ⟨⟨o3_ok _⟩, ?_⟩
  refine ⟨⟨?_⟩, ?_⟩; rotate_left
  refine ⟨⟨o3_ok _⟩, ?_⟩
  refine ⟨⟨?_⟩, ?_⟩; rotate_left
  refine ⟨⟨o3_ok _⟩, ?_⟩
  refine ⟨⟨?_⟩, ?_⟩; rotate_left
  subst hv; exact ⟨rfl, rfl⟩
  revert hv; refine by_cond2 (fun hb hv => ?_) (fun hb hv => ?_)
  refine ⟨⟨o3_ok _⟩, ?_⟩
  refine ⟨⟨?_⟩, ?_⟩; rotate_left
  refine ⟨⟨o3_ok _⟩, ?_⟩
  refine ⟨⟨?_⟩, ?_⟩; rotate_left
  refine ⟨⟨o3_ok _⟩, ?_⟩
  refine ⟨⟨?_⟩, ?_⟩; rotate_left
  subst hv; exact ⟨rfl, rfl⟩
  refine ⟨⟨o3_ok _⟩, ?_⟩
  refine ⟨⟨?_⟩, ?_⟩; rotate_left
  refine ⟨⟨o3_ok _⟩, ?_⟩
  refine ⟨⟨?_⟩, ?_⟩; rotate_left
  refine ⟨⟨o3_ok _⟩, ?_⟩
  refine ⟨⟨?_⟩, ?_⟩; rotate_left
  subst hv; exact ⟨rfl, rfl⟩
  all_goals ((try clear hv); (try clear q1 q2); (try clear hk); (first | omega | ((try simp only [decide_eq_true_eq, decide_eq_false_iff_not, Bool.not_eq_true, Bool.not_eq_false, Bool.and_eq_true, Bool.or_eq_true, Bool.not_not, cond_and, cond_or, List.length_append, List.length_cons, List.length_nil] at *); (first | done | ((first | omega | (intros; (try simp only [Bool.not_not, cond_and, cond_or, Bool.and_eq_true, decide_eq_true_eq] at *); (exact band_nn rfl _ _)) | (intros; (try simp only [Bool.not_not, cond_and, cond_or, Bool.and_eq_true, decide_eq_true_eq] at *); (exact (wu64s _).2.1)) | (intros; (try simp only [Bool.not_not, cond_and, cond_or, Bool.and_eq_true, decide_eq_true_eq] at *); (simp only [Bool.or_eq_false_iff, Bool.and_eq_false_iff, decide_eq_false_iff_not, decide_eq_true_eq, bne_iff_ne, beq_iff_eq, bne_eq_false_iff_eq, beq_eq_false_iff_ne, ne_eq, true_and] at *; omega)) | (intros; (try simp only [Bool.not_not, cond_and, cond_or, Bool.and_eq_true, decide_eq_true_eq] at *); (simp only [List.length_drop, List.length_take, List.length_append, List.length_cons, List.length_nil] at *; omega)) | (intros; omega) | (intros; simp only [sized_iff, Bool.not_not, cond_and, cond_or, Bool.and_eq_true, decide_eq_true_eq] at *; omega) | (intros; simp_all [sized_iff, Bool.not_not]; done)))))))
def r26size.ct : Ct El := ctOf r26size.dec (fun _ => []) (fun x => r26size.res (r26size x)) (fun x => r26size.news (r26size x))
theorem r26size.ok : CtOk (mkCx Try.prog S [] 0) 44 r26size.ct := ct_mk (C := (mkCx Try.prog S tab_cUpd 0)) (mkCx_ok sigOk mixed tab_cUpd_ok 0) r26size.dec_ok (fun x => rfl) 4 (fun x _ => (r26size.nf_ok x _).mpr (r26size.key x _ rfl))
def tab_r26size : List (FuncId × Ct El) := (44, r26size.ct) :: tab_r17CheckUpdate
theorem tab_r26size_ok : TabOk Try.prog S tab_r26size := ⟨r26size.ok, by kernel_rfl, tab_r17CheckUpdate_ok⟩

/-! wireless/wirelessref26.rest -/
def r26rest.res (r : Control) : AV El := Control.av (r)
def r26rest.news (r : Control) : List (AObj El) := []
def r26rest.L (e v : Control) : Prop := r26rest.res e = r26rest.res v ∧ r26rest.news e = r26rest.news v
def r26rest (c : Control) : Control := cond (c.Kind == 0) ((⟨(0), ⟨(0), (0), (0), (0), (0)⟩, (c.Map), (0), (c.Reason), (c.Rejected), (c.Salt), (c.Mark), (c.Features), (c.Version), (c.Length)⟩ : Control)) (cond (c.Kind == 1) ((⟨(0), ⟨(c.Update.WinSize), (c.Update.WinOffset), (c.Update.Interval), (c.Update.Latency), (c.Update.Timeout)⟩, (0), (0), (c.Reason), (c.Rejected), (c.Salt), (c.Mark), (c.Features), (c.Version), (c.Length)⟩ : Control)) (cond (c.Kind == 2) ((⟨(0), ⟨(c.Update.WinSize), (c.Update.WinOffset), (c.Update.Interval), (c.Update.Latency), (c.Update.Timeout)⟩, (c.Map), (c.Instant), (0), (c.Rejected), (c.Salt), (c.Mark), (c.Features), (c.Version), (c.Length)⟩ : Control)) (cond (c.Kind == 3) ((⟨(0), ⟨(c.Update.WinSize), (c.Update.WinOffset), (c.Update.Interval), (c.Update.Latency), (c.Update.Timeout)⟩, (c.Map), (c.Instant), (c.Reason), (c.Rejected), (0), (0), (c.Features), (c.Version), (c.Length)⟩ : Control)) (cond (c.Kind == 4) ((⟨(0), ⟨(c.Update.WinSize), (c.Update.WinOffset), (c.Update.Interval), (c.Update.Latency), (c.Update.Timeout)⟩, (c.Map), (c.Instant), (c.Reason), (c.Rejected), (0), (c.Mark), (c.Features), (c.Version), (c.Length)⟩ : Control)) (cond (c.Kind == 5) ((⟨(0), ⟨(c.Update.WinSize), (c.Update.WinOffset), (c.Update.Interval), (c.Update.Latency), (c.Update.Timeout)⟩, (c.Map), (c.Instant), (c.Reason), (c.Rejected), (c.Salt), (c.Mark), (c.Features), (c.Version), (c.Length)⟩ : Control)) (cond (c.Kind == 6) ((⟨(0), ⟨(c.Update.WinSize), (c.Update.WinOffset), (c.Update.Interval), (c.Update.Latency), (c.Update.Timeout)⟩, (c.Map), (c.Instant), (c.Reason), (c.Rejected), (c.Salt), (c.Mark), (c.Features), (c.Version), (c.Length)⟩ : Control)) (cond (c.Kind == 18) ((⟨(0), ⟨(c.Update.WinSize), (c.Update.WinOffset), (c.Update.Interval), (c.Update.Latency), (c.Update.Timeout)⟩, (c.Map), (c.Instant), (c.Reason), (c.Rejected), (c.Salt), (c.Mark), (c.Features), (c.Version), (c.Length)⟩ : Control)) (cond (c.Kind == 19) ((⟨(0), ⟨(c.Update.WinSize), (c.Update.WinOffset), (c.Update.Interval), (c.Update.Latency), (c.Update.Timeout)⟩, (c.Map), (c.Instant), (c.Reason), (c.Rejected), (c.Salt), (c.Mark), (c.Features), (c.Version), (c.Length)⟩ : Control)) (cond (c.Kind == 7) ((⟨(0), ⟨(c.Update.WinSize), (c.Update.WinOffset), (c.Update.Interval), (c.Update.Latency), (c.Update.Timeout)⟩, (c.Map), (c.Instant), (c.Reason), (0), (c.Salt), (c.Mark), (c.Features), (c.Version), (c.Length)⟩ : Control)) (cond (c.Kind == 8) ((⟨(0), ⟨(c.Update.WinSize), (c.Update.WinOffset), (c.Update.Interval), (c.Update.Latency), (c.Update.Timeout)⟩, (c.Map), (c.Instant), (c.Reason), (c.Rejected), (c.Salt), (c.Mark), (0), (c.Version), (c.Length)⟩ : Control)) (cond (c.Kind == 9) ((⟨(0), ⟨(c.Update.WinSize), (c.Update.WinOffset), (c.Update.Interval), (c.Update.Latency), (c.Update.Timeout)⟩, (c.Map), (c.Instant), (c.Reason), (c.Rejected), (c.Salt), (c.Mark), (0), (c.Version), (c.Length)⟩ : Control)) (cond (c.Kind == 12) ((⟨(0), ⟨(c.Update.WinSize), (c.Update.WinOffset), (c.Update.Interval), (c.Update.Latency), (c.Update.Timeout)⟩, (c.Map), (c.Instant), (c.Reason), (c.Rejected), (c.Salt), (c.Mark), (c.Features), (0), (c.Length)⟩ : Control)) (cond (c.Kind == 13) ((⟨(0), ⟨(c.Update.WinSize), (c.Update.WinOffset), (c.Update.Interval), (c.Update.Latency), (c.Update.Timeout)⟩, (c.Map), (c.Instant), (0), (0), (c.Salt), (c.Mark), (c.Features), (c.Version), (c.Length)⟩ : Control)) (cond (c.Kind == 15) ((⟨(0), ⟨(0), (0), (0), (0), (0)⟩, (c.Map), (c.Instant), (c.Reason), (c.Rejected), (c.Salt), (c.Mark), (c.Features), (c.Version), (c.Length)⟩ : Control)) (cond (c.Kind == 20) ((⟨(0), ⟨(c.Update.WinSize), (c.Update.WinOffset), (c.Update.Interval), (c.Update.Latency), (c.Update.Timeout)⟩, (c.Map), (c.Instant), (c.Reason), (c.Rejected), (c.Salt), (c.Mark), (c.Features), (c.Version), (0)⟩ : Control)) (cond (c.Kind == 21) ((⟨(0), ⟨(c.Update.WinSize), (c.Update.WinOffset), (c.Update.Interval), (c.Update.Latency), (c.Update.Timeout)⟩, (c.Map), (c.Instant), (c.Reason), (c.Rejected), (c.Salt), (c.Mark), (c.Features), (c.Version), (0)⟩ : Control)) ((⟨(0), ⟨(c.Update.WinSize), (c.Update.WinOffset), (c.Update.Interval), (c.Update.Latency), (c.Update.Timeout)⟩, (c.Map), (c.Instant), (c.Reason), (c.Rejected), (c.Salt), (c.Mark), (c.Features), (c.Version), (c.Length)⟩ : Control))))))))))))))))))
def r26rest.dec (cs : List (AV El)) : Option (Control) := popA Control.dec cs fun a0 c0 => popE c0 a0
def r26rest.enc (x : Control) : List (AV El) := [Control.av x]
theorem r26rest.dec_ok : ∀ cs x, r26rest.dec cs = some x → Imp (S := S) cs (r26rest.enc x) := by
  intro cs x h
  unfold r26rest.dec at h
  obtain ⟨a0, c0, h0, k0⟩ := popA_some (S := S) Control.dec_ok h
  obtain ⟨rfl, rfl⟩ := popE_some (S := S) h0
  exact (k0 _ (.refl _))
def r26rest.nf (c : Control) (v : Control) : Prop := cond (c.Kind == 0) (r26rest.L ((⟨(0), ⟨(0), (0), (0), (0), (0)⟩, (c.Map), (0), (c.Reason), (c.Rejected), (c.Salt), (c.Mark), (c.Features), (c.Version), (c.Length)⟩ : Control)) v) (cond (c.Kind == 1) (r26rest.L ((⟨(0), ⟨(c.Update.WinSize), (c.Update.WinOffset), (c.Update.Interval), (c.Update.Latency), (c.Update.Timeout)⟩, (0), (0), (c.Reason), (c.Rejected), (c.Salt), (c.Mark), (c.Features), (c.Version), (c.Length)⟩ : Control)) v) (cond (c.Kind == 2) (r26rest.L ((⟨(0), ⟨(c.Update.WinSize), (c.Update.WinOffset), (c.Update.Interval), (c.Update.Latency), (c.Update.Timeout)⟩, (c.Map), (c.Instant), (0), (c.Rejected), (c.Salt), (c.Mark), (c.Features), (c.Version), (c.Length)⟩ : Control)) v) (cond (c.Kind == 3) (r26rest.L ((⟨(0), ⟨(c.Update.WinSize), (c.Update.WinOffset), (c.Update.Interval), (c.Update.Latency), (c.Update.Timeout)⟩, (c.Map), (c.Instant), (c.Reason), (c.Rejected), (0), (0), (c.Features), (c.Version), (c.Length)⟩ : Control)) v) (cond (c.Kind == 4) (r26rest.L ((⟨(0), ⟨(c.Update.WinSize), (c.Update.WinOffset), (c.Update.Interval), (c.Update.Latency), (c.Update.Timeout)⟩, (c.Map), (c.Instant), (c.Reason), (c.Rejected), (0), (c.Mark), (c.Features), (c.Version), (c.Length)⟩ : Control)) v) (cond (c.Kind == 5) (r26rest.L ((⟨(0), ⟨(c.Update.WinSize), (c.Update.WinOffset), (c.Update.Interval), (c.Update.Latency), (c.Update.Timeout)⟩, (c.Map), (c.Instant), (c.Reason), (c.Rejected), (c.Salt), (c.Mark), (c.Features), (c.Version), (c.Length)⟩ : Control)) v) (cond (c.Kind == 6) (r26rest.L ((⟨(0), ⟨(c.Update.WinSize), (c.Update.WinOffset), (c.Update.Interval), (c.Update.Latency), (c.Update.Timeout)⟩, (c.Map), (c.Instant), (c.Reason), (c.Rejected), (c.Salt), (c.Mark), (c.Features), (c.Version), (c.Length)⟩ : Control)) v) (cond (c.Kind == 18) (r26rest.L ((⟨(0), ⟨(c.Update.WinSize), (c.Update.WinOffset), (c.Update.Interval), (c.Update.Latency), (c.Update.Timeout)⟩, (c.Map), (c.Instant), (c.Reason), (c.Rejected), (c.Salt), (c.Mark), (c.Features), (c.Version), (c.Length)⟩ : Control)) v) (cond (c.Kind == 19) (r26rest.L ((⟨(0), ⟨(c.Update.WinSize), (c.Update.WinOffset), (c.Update.Interval), (c.Update.Latency), (c.Update.Timeout)⟩, (c.Map), (c.Instant), (c.Reason), (c.Rejected), (c.Salt), (c.Mark), (c.Features), (c.Version), (c.Length)⟩ : Control)) v) (cond (c.Kind == 7) (r26rest.L ((⟨(0), ⟨(c.Update.WinSize), (c.Update.WinOffset), (c.Update.Interval), (c.Update.Latency), (c.Update.Timeout)⟩, (c.Map), (c.Instant), (c.Reason), (0), (c.Salt), (c.Mark), (c.Features), (c.Version), (c.Length)⟩ : Control)) v) (cond (c.Kind == 8) (r26rest.L ((⟨(0), ⟨(c.Update.WinSize), (c.Update.WinOffset), (c.Update.Interval), (c.Update.Latency), (c.Update.Timeout)⟩, (c.Map), (c.Instant), (c.Reason), (c.Rejected), (c.Salt), (c.Mark), (0), (c.Version), (c.Length)⟩ : Control)) v) (cond (c.Kind == 9) (r26rest.L ((⟨(0), ⟨(c.Update.WinSize), (c.Update.WinOffset), (c.Update.Interval), (c.Update.Latency), (c.Update.Timeout)⟩, (c.Map), (c.Instant), (c.Reason), (c.Rejected), (c.Salt), (c.Mark), (0), (c.Version), (c.Length)⟩ : Control)) v) (cond (c.Kind == 12) (r26rest.L ((⟨(0), ⟨(c.Update.WinSize), (c.Update.WinOffset), (c.Update.Interval), (c.Update.Latency), (c.Update.Timeout)⟩, (c.Map), (c.Instant), (c.Reason), (c.Rejected), (c.Salt), (c.Mark), (c.Features), (0), (c.Length)⟩ : Control)) v) (cond (c.Kind == 13) (r26rest.L ((⟨(0), ⟨(c.Update.WinSize), (c.Update.WinOffset), (c.Update.Interval), (c.Update.Latency), (c.Update.Timeout)⟩, (c.Map), (c.Instant), (0), (0), (c.Salt), (c.Mark), (c.Features), (c.Version), (c.Length)⟩ : Control)) v) (cond (c.Kind == 15) (r26rest.L ((⟨(0), ⟨(0), (0), (0), (0), (0)⟩, (c.Map), (c.Instant), (c.Reason), (c.Rejected), (c.Salt), (c.Mark), (c.Features), (c.Version), (c.Length)⟩ : Control)) v) (cond (c.Kind == 20) (r26rest.L ((⟨(0), ⟨(c.Update.WinSize), (c.Update.WinOffset), (c.Update.Interval), (c.Update.Latency), (c.Update.Timeout)⟩, (c.Map), (c.Instant), (c.Reason), (c.Rejected), (c.Salt), (c.Mark), (c.Features), (c.Version), (0)⟩ : Control)) v) (cond (c.Kind == 21) (r26rest.L ((⟨(0), ⟨(c.Update.WinSize), (c.Update.WinOffset), (c.Update.Interval), (c.Update.Latency), (c.Update.Timeout)⟩, (c.Map), (c.Instant), (c.Reason), (c.Rejected), (c.Salt), (c.Mark), (c.Features), (c.Version), (0)⟩ : Control)) v) (r26rest.L ((⟨(0), ⟨(c.Update.WinSize), (c.Update.WinOffset), (c.Update.Interval), (c.Update.Latency), (c.Update.Timeout)⟩, (c.Map), (c.Instant), (c.Reason), (c.Rejected), (c.Salt), (c.Mark), (c.Features), (c.Version), (c.Length)⟩ : Control)) v)))))))))))))))))
theorem r26rest.nf_ok (c : Control) (v : Control) : evFun (mkCx Try.prog S tab_cUpd 0) 4 36 [Control.av c] [] (fun r' H' => Gives r' H' (r26rest.res v) (r26rest.news v)) = r26rest.nf c v := by kernel_rfl
theorem r26rest.key (c : Control) (v : Control) (hv : v = r26rest c) : r26rest.nf c v := by
  unfold r26rest at hv
  unfold r26rest.nf
  revert hv; refine by_cond2 (fun hb hv => ?_) (fun hb hv => ?_)
  · subst hv; exact ⟨rfl, rfl⟩
  · revert hv; refine by_cond2 (fun hb hv => ?_) (fun hb hv => ?_)
    · subst hv; exact ⟨rfl, rfl⟩
    · revert hv; refine by_cond2 (fun hb hv => ?_) (fun hb hv => ?_)
      · subst hv; exact ⟨rfl, rfl⟩
      · revert hv; refine by_cond2 (fun hb hv => ?_) (fun hb hv => ?_)
        · subst hv; exact ⟨rfl, rfl⟩
        · revert hv; refine by_cond2 (fun hb hv => ?_) (fun hb hv => ?_)
          · subst hv; exact ⟨rfl, rfl⟩
          · revert hv; refine by_cond2 (fun hb hv => ?_) (fun hb hv => ?_)
            · subst hv; exact ⟨rfl, rfl⟩
            · revert hv; refine by_cond2 (fun hb hv => ?_) (fun hb hv => ?_)
              · subst hv; exact ⟨rfl, rfl⟩
              · revert hv; refine by_cond2 (fun hb hv => ?_) (fun hb hv => ?_)
                · subst hv; exact ⟨rfl, rfl⟩
                · revert hv; refine by_cond2 (fun hb hv => ?_) (fun hb hv => ?_)
                  · subst hv; exact ⟨rfl, rfl⟩
                  · revert hv; refine by_cond2 (fun hb hv => ?_) (fun hb hv => ?_)
                    · subst hv; exact ⟨rfl, rfl⟩
                    · revert hv; refine by_cond2 (fun hb hv => ?_) (fun hb hv => ?_)
                      · subst hv; exact ⟨rfl, rfl⟩
                      · revert hv; refine by_cond2 (fun hb hv => ?_) (fun hb hv => ?_)
                        · subst hv; exact ⟨rfl, rfl⟩
                        · revert hv; refine by_cond2 (fun hb hv => ?_) (fun hb hv => ?_)
                          · subst hv; exact ⟨rfl, rfl⟩
                          · revert hv; refine by_cond2 (fun hb hv => ?_) (fun hb hv => ?_)
                            · subst hv; exact ⟨rfl, rfl⟩
                            · revert hv; refine by_cond2 (fun hb hv => ?_) (fun hb hv => ?_)
                              · subst hv; exact ⟨rfl, rfl⟩
                              · revert hv; refine by_cond2 (fun hb hv => ?_) (fun hb hv => ?_)
                                · subst hv; exact ⟨rfl, rfl⟩
                                · revert hv; refine by_cond2 (fun hb hv => ?_) (fun hb hv => ?_)
                                  · subst hv; exact ⟨rfl, rfl⟩
                                  · subst hv; exact ⟨rfl, rfl⟩
def r26rest.ct : Ct El := ctOf r26rest.dec (fun _ => []) (fun x => r26rest.res (r26rest x)) (fun x => r26rest.news (r26rest x))
theorem r26rest.ok : CtOk (mkCx Try.prog S [] 0) 36 r26rest.ct := ct_mk (C := (mkCx Try.prog S tab_cUpd 0)) (mkCx_ok sigOk mixed tab_cUpd_ok 0) r26rest.dec_ok (fun x => rfl) 4 (fun x _ => (r26rest.nf_ok x _).mpr (r26rest.key x _ rfl))
def tab_r26rest : List (FuncId × Ct El) := (36, r26rest.ct) :: tab_r26size
theorem tab_r26rest_ok : TabOk Try.prog S tab_r26rest := ⟨r26rest.ok, by kernel_rfl, tab_r26size_ok⟩

end Go.Aw.W
