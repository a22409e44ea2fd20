/- Contracts of the seat (printed by ct.py). -/
import Derived.Test.YtkngobfkfleacaaW1
set_option linter.unusedVariables false
set_option linter.unusedSimpArgs false
set_option maxRecDepth 20000
set_option maxHeartbeats 1000000
namespace Go.Aw.W
open Go Go.Aw Go.Proofs
attribute [local irreducible] evCode evFun evOps evDs evOne ctxK loopK loopB subC bodyC headS okH roundK

/-! wireless/wirelessref17.CheckUpdate -/
def r17CheckUpdate.res (r : Int) : AV El := .v (.int .i64 (r))
def r17CheckUpdate.news (r : Int) : List (AObj El) := []
def r17CheckUpdate (u : Update) : Int := cond (bif
    bif
        bif
            bif !r17within u.WinSize (1 : Int) (8 : Int) then true
            else !r17within u.WinOffset (0 : Int) (3200 : Int) then
          true
        else !r17within u.Interval (6 : Int) (3200 : Int) then
      true
    else !r17within u.Latency (0 : Int) (499 : Int) then
  true
else !r17within u.Timeout (10 : Int) (3200 : Int)) ((5 : Int)) (cond (bif bif decide (u.Interval ≤ u.WinSize) then true else decide (u.Interval < u.WinOffset) then true
else
  decide
    (IntKind.wrap IntKind.i64 (u.Timeout * (10000 : Int)) ≤
      IntKind.wrap IntKind.i64
        (IntKind.wrap IntKind.i64
            (IntKind.wrap IntKind.i64 ((2 : Int) * IntKind.wrap IntKind.i64 (u.Latency + (1 : Int))) * u.Interval) *
          (1250 : Int)))) ((11 : Int)) ((0 : Int)))
def r17CheckUpdate.dec (cs : List (AV El)) : Option (Update) := popA Update.dec cs fun a0 c0 => popE c0 a0
def r17CheckUpdate.enc (x : Update) : List (AV El) := [Update.av x]
theorem r17CheckUpdate.dec_ok : ∀ cs x, r17CheckUpdate.dec cs = some x → Imp (S := S) cs (r17CheckUpdate.enc x) := by
  intro cs x h
  unfold r17CheckUpdate.dec at h
  obtain ⟨a0, c0, h0, k0⟩ := popA_some (S := S) Update.dec_ok h
  obtain ⟨rfl, rfl⟩ := popE_some (S := S) h0
  exact (k0 _ (.refl _))
def r17CheckUpdate.nf (u : Update) (K : AV El → List (AObj El) → Prop) : Prop := Ob (o3 (!!r17within u.WinSize (1 : Int) (8 : Int))) ∧ (Ob (o3 (!!r17within u.WinSize (1 : Int) (8 : Int))) ∧ (Ob (o3 (!!r17within u.WinSize (1 : Int) (8 : Int))) ∧ (Ob (on (!r17within u.WinSize (1 : Int) (8 : Int))) ∧ (Ob (o3 (!bif !r17within u.WinSize (1 : Int) (8 : Int) then true else !r17within u.WinOffset (0 : Int) (3200 : Int))) ∧ (Ob (o3 (!bif !r17within u.WinSize (1 : Int) (8 : Int) then true else !r17within u.WinOffset (0 : Int) (3200 : Int))) ∧ (Ob (o3 (!bif !r17within u.WinSize (1 : Int) (8 : Int) then true else !r17within u.WinOffset (0 : Int) (3200 : Int))) ∧ (Ob (on (bif !r17within u.WinSize (1 : Int) (8 : Int) then true else !r17within u.WinOffset (0 : Int) (3200 : Int))) ∧ (Ob (o3 (!bif bif !r17within u.WinSize (1 : Int) (8 : Int) then true else !r17within u.WinOffset (0 : Int) (3200 : Int) then true
  else !r17within u.Interval (6 : Int) (3200 : Int))) ∧ (Ob (o3 (!bif bif !r17within u.WinSize (1 : Int) (8 : Int) then true else !r17within u.WinOffset (0 : Int) (3200 : Int) then true
  else !r17within u.Interval (6 : Int) (3200 : Int))) ∧ (Ob (o3 (!bif bif !r17within u.WinSize (1 : Int) (8 : Int) then true else !r17within u.WinOffset (0 : Int) (3200 : Int) then true
  else !r17within u.Interval (6 : Int) (3200 : Int))) ∧ (Ob (on (bif bif !r17within u.WinSize (1 : Int) (8 : Int) then true else !r17within u.WinOffset (0 : Int) (3200 : Int) then true
else !r17within u.Interval (6 : Int) (3200 : Int))) ∧ (Ob (o3 (!bif
      bif bif !r17within u.WinSize (1 : Int) (8 : Int) then true else !r17within u.WinOffset (0 : Int) (3200 : Int) then
        true
      else !r17within u.Interval (6 : Int) (3200 : Int) then
    true
  else !r17within u.Latency (0 : Int) (499 : Int))) ∧ (Ob (o3 (!bif
      bif bif !r17within u.WinSize (1 : Int) (8 : Int) then true else !r17within u.WinOffset (0 : Int) (3200 : Int) then
        true
      else !r17within u.Interval (6 : Int) (3200 : Int) then
    true
  else !r17within u.Latency (0 : Int) (499 : Int))) ∧ (Ob (o3 (!bif
      bif bif !r17within u.WinSize (1 : Int) (8 : Int) then true else !r17within u.WinOffset (0 : Int) (3200 : Int) then
        true
      else !r17within u.Interval (6 : Int) (3200 : Int) then
    true
  else !r17within u.Latency (0 : Int) (499 : Int))) ∧ (Ob (on (bif
    bif bif !r17within u.WinSize (1 : Int) (8 : Int) then true else !r17within u.WinOffset (0 : Int) (3200 : Int) then
      true
    else !r17within u.Interval (6 : Int) (3200 : Int) then
  true
else !r17within u.Latency (0 : Int) (499 : Int))) ∧ (cond (bif
    bif
        bif
            bif !r17within u.WinSize (1 : Int) (8 : Int) then true
            else !r17within u.WinOffset (0 : Int) (3200 : Int) then
          true
        else !r17within u.Interval (6 : Int) (3200 : Int) then
      true
    else !r17within u.Latency (0 : Int) (499 : Int) then
  true
else !r17within u.Timeout (10 : Int) (3200 : Int)) (K (.v (.int .i64 ((5 : Int)))) [.cells [.v (.int .i64 (u.WinSize)), .v (.int .i64 (u.WinOffset)), .v (.int .i64 (u.Interval)), .v (.int .i64 (u.Latency)), .v (.int .i64 (u.Timeout))]]) (Ob (o3 (!decide (u.Interval ≤ u.WinSize))) ∧ (Ob (o3 (!decide (u.Interval ≤ u.WinSize))) ∧ (Ob (o3 (!decide (u.Interval ≤ u.WinSize))) ∧ (Ob (o3 (!decide (u.Interval ≤ u.WinSize))) ∧ (Ob (on (decide (u.Interval ≤ u.WinSize))) ∧ (Ob (o3 (!bif decide (u.Interval ≤ u.WinSize) then true else decide (u.Interval < u.WinOffset))) ∧ (Ob (o3 (!bif decide (u.Interval ≤ u.WinSize) then true else decide (u.Interval < u.WinOffset))) ∧ (Ob (o3 (!bif decide (u.Interval ≤ u.WinSize) then true else decide (u.Interval < u.WinOffset))) ∧ (Ob (o3 (!bif decide (u.Interval ≤ u.WinSize) then true else decide (u.Interval < u.WinOffset))) ∧ (Ob (o3 (!bif decide (u.Interval ≤ u.WinSize) then true else decide (u.Interval < u.WinOffset))) ∧ (Ob (o3 (!bif decide (u.Interval ≤ u.WinSize) then true else decide (u.Interval < u.WinOffset))) ∧ (Ob (o3 (!bif decide (u.Interval ≤ u.WinSize) then true else decide (u.Interval < u.WinOffset))) ∧ (Ob (o3 (!bif decide (u.Interval ≤ u.WinSize) then true else decide (u.Interval < u.WinOffset))) ∧ (Ob (o3 (!bif decide (u.Interval ≤ u.WinSize) then true else decide (u.Interval < u.WinOffset))) ∧ (Ob (o3 (!bif decide (u.Interval ≤ u.WinSize) then true else decide (u.Interval < u.WinOffset))) ∧ (Ob (o3 (!bif decide (u.Interval ≤ u.WinSize) then true else decide (u.Interval < u.WinOffset))) ∧ (Ob (on (bif decide (u.Interval ≤ u.WinSize) then true else decide (u.Interval < u.WinOffset))) ∧ (cond (bif bif decide (u.Interval ≤ u.WinSize) then true else decide (u.Interval < u.WinOffset) then true
else
  decide
    (IntKind.wrap IntKind.i64 (u.Timeout * (10000 : Int)) ≤
      IntKind.wrap IntKind.i64
        (IntKind.wrap IntKind.i64
            (IntKind.wrap IntKind.i64 ((2 : Int) * IntKind.wrap IntKind.i64 (u.Latency + (1 : Int))) * u.Interval) *
          (1250 : Int)))) (K (.v (.int .i64 ((11 : Int)))) [.cells [.v (.int .i64 (u.WinSize)), .v (.int .i64 (u.WinOffset)), .v (.int .i64 (u.Interval)), .v (.int .i64 (u.Latency)), .v (.int .i64 (u.Timeout))]]) (K (.v (.int .i64 ((0 : Int)))) [.cells [.v (.int .i64 (u.WinSize)), .v (.int .i64 (u.WinOffset)), .v (.int .i64 (u.Interval)), .v (.int .i64 (u.Latency)), .v (.int .i64 (u.Timeout))]])))))))))))))))))))))))))))))))))))
theorem r17CheckUpdate.nf_ok (u : Update) (K : AV El → List (AObj El) → Prop) : evFun (mkCx Try.prog S tab_sized 0) 4 13 [Update.av u] [] K = r17CheckUpdate.nf u K := by kernel_rfl
theorem r17CheckUpdate.key (u : Update) (v : Int) (hv : v = r17CheckUpdate u) : r17CheckUpdate.nf u (fun r' H' => Gives r' H' (r17CheckUpdate.res v) (r17CheckUpdate.news v)) := by
  unfold r17CheckUpdate at hv
  unfold r17CheckUpdate.nf
  refine ⟨⟨o3_ok _⟩, ?_⟩
  refine ⟨⟨o3_ok _⟩, ?_⟩
  refine ⟨⟨o3_ok _⟩, ?_⟩
  refine ⟨⟨on_ok _⟩, ?_⟩
  refine ⟨⟨o3_ok _⟩, ?_⟩
  refine ⟨⟨o3_ok _⟩, ?_⟩
  refine ⟨⟨o3_ok _⟩, ?_⟩
  refine ⟨⟨on_ok _⟩, ?_⟩
  refine ⟨⟨o3_ok _⟩, ?_⟩
  refine ⟨⟨o3_ok _⟩, ?_⟩
  refine ⟨⟨o3_ok _⟩, ?_⟩
  refine ⟨⟨on_ok _⟩, ?_⟩
  refine ⟨⟨o3_ok _⟩, ?_⟩
  refine ⟨⟨o3_ok _⟩, ?_⟩
  refine ⟨⟨o3_ok _⟩, ?_⟩
  refine ⟨⟨on_ok _⟩, ?_⟩
  refine by_cond (fun hb hv => ?_) (fun hb hv => ?_) hv
  · subst hv; exact And.intro (by kernel_rfl) (by kernel_rfl)
  · refine ⟨⟨o3_ok _⟩, ?_⟩
    refine ⟨⟨o3_ok _⟩, ?_⟩
    refine ⟨⟨o3_ok _⟩, ?_⟩
    refine ⟨⟨o3_ok _⟩, ?_⟩
    refine ⟨⟨on_ok _⟩, ?_⟩
    refine ⟨⟨o3_ok _⟩, ?_⟩
    refine ⟨⟨o3_ok _⟩, ?_⟩
    refine ⟨⟨o3_ok _⟩, ?_⟩
    refine ⟨⟨o3_ok _⟩, ?_⟩
    refine ⟨⟨o3_ok _⟩, ?_⟩
    refine ⟨⟨o3_ok _⟩, ?_⟩
    refine ⟨⟨o3_ok _⟩, ?_⟩
    refine ⟨⟨o3_ok _⟩, ?_⟩
    refine ⟨⟨o3_ok _⟩, ?_⟩
    refine ⟨⟨o3_ok _⟩, ?_⟩
    refine ⟨⟨o3_ok _⟩, ?_⟩
    refine ⟨⟨on_ok _⟩, ?_⟩
    refine by_cond (fun hb hv => ?_) (fun hb hv => ?_) hv
    · subst hv; exact And.intro (by kernel_rfl) (by kernel_rfl)
    · subst hv; exact And.intro (by kernel_rfl) (by kernel_rfl)
def r17CheckUpdate.ct : Ct El := ctOf r17CheckUpdate.dec (fun _ => []) (fun x => r17CheckUpdate.res (r17CheckUpdate x)) (fun x => r17CheckUpdate.news (r17CheckUpdate x))
theorem r17CheckUpdate.ok : CtOk (mkCx Try.prog S [] 0) 13 r17CheckUpdate.ct := ct_mk (C := (mkCx Try.prog S tab_sized 0)) (mkCx_ok sigOk mixed tab_sized_ok 0) r17CheckUpdate.dec_ok (fun x => rfl) 4 (fun x _ => (r17CheckUpdate.nf_ok x _).mpr (r17CheckUpdate.key x _ rfl))
def tab_r17CheckUpdate : List (FuncId × Ct El) := (13, r17CheckUpdate.ct) :: tab_sized
theorem tab_r17CheckUpdate_ok : TabOk Try.prog S tab_r17CheckUpdate := ⟨r17CheckUpdate.ok, by kernel_rfl, tab_sized_ok⟩

/-! wireless/wirelessref11.Check -/
def r11Check.res (r : Int) : AV El := .v (.int .i64 (r))
def r11Check.news (r : Int) : List (AObj El) := []
def r11Check (c : Clock) : Int := cond (bif
    bif bif decide (c.PPM < (-500 : Int)) then true else decide ((500 : Int) < c.PPM) then true
    else decide (c.Start < (0 : Int)) then
  true
else decide ((1099511627776 : Int) < c.Start)) ((5 : Int)) ((0 : Int))
def r11Check.dec (cs : List (AV El)) : Option (Clock) := popA Clock.dec cs fun a0 c0 => popE c0 a0
def r11Check.enc (x : Clock) : List (AV El) := [Clock.av x]
theorem r11Check.dec_ok : ∀ cs x, r11Check.dec cs = some x → Imp (S := S) cs (r11Check.enc x) := by
  intro cs x h
  unfold r11Check.dec at h
  obtain ⟨a0, c0, h0, k0⟩ := popA_some (S := S) Clock.dec_ok h
  obtain ⟨rfl, rfl⟩ := popE_some (S := S) h0
  exact (k0 _ (.refl _))
def r11Check.nf (c : Clock) (K : AV El → List (AObj El) → Prop) : Prop := Ob (o3 (!decide (c.PPM < (-500 : Int)))) ∧ (Ob (o3 (!decide (c.PPM < (-500 : Int)))) ∧ (Ob (on (decide (c.PPM < (-500 : Int)))) ∧ (Ob (o3 (!bif decide (c.PPM < (-500 : Int)) then true else decide ((500 : Int) < c.PPM))) ∧ (Ob (o3 (!bif decide (c.PPM < (-500 : Int)) then true else decide ((500 : Int) < c.PPM))) ∧ (Ob (on (bif decide (c.PPM < (-500 : Int)) then true else decide ((500 : Int) < c.PPM))) ∧ (Ob (o3 (!bif bif decide (c.PPM < (-500 : Int)) then true else decide ((500 : Int) < c.PPM) then true
  else decide (c.Start < (0 : Int)))) ∧ (Ob (o3 (!bif bif decide (c.PPM < (-500 : Int)) then true else decide ((500 : Int) < c.PPM) then true
  else decide (c.Start < (0 : Int)))) ∧ (Ob (on (bif bif decide (c.PPM < (-500 : Int)) then true else decide ((500 : Int) < c.PPM) then true
else decide (c.Start < (0 : Int)))) ∧ (cond (bif
    bif bif decide (c.PPM < (-500 : Int)) then true else decide ((500 : Int) < c.PPM) then true
    else decide (c.Start < (0 : Int)) then
  true
else decide ((1099511627776 : Int) < c.Start)) (K (.v (.int .i64 ((5 : Int)))) [.cells [.v (.int .i64 (c.PPM)), .v (.int .i64 (c.Start))]]) (K (.v (.int .i64 ((0 : Int)))) [.cells [.v (.int .i64 (c.PPM)), .v (.int .i64 (c.Start))]]))))))))))
theorem r11Check.nf_ok (c : Clock) (K : AV El → List (AObj El) → Prop) : evFun (mkCx Try.prog S tab_sized 0) 4 56 [Clock.av c] [] K = r11Check.nf c K := by kernel_rfl
theorem r11Check.key (c : Clock) (v : Int) (hv : v = r11Check c) : r11Check.nf c (fun r' H' => Gives r' H' (r11Check.res v) (r11Check.news v)) := by
  unfold r11Check at hv
  unfold r11Check.nf
  refine ⟨⟨o3_ok _⟩, ?_⟩
  refine ⟨⟨o3_ok _⟩, ?_⟩
  refine ⟨⟨on_ok _⟩, ?_⟩
  refine ⟨⟨o3_ok _⟩, ?_⟩
  refine ⟨⟨o3_ok _⟩, ?_⟩
  refine ⟨⟨on_ok _⟩, ?_⟩
  refine ⟨⟨o3_ok _⟩, ?_⟩
  refine ⟨⟨o3_ok _⟩, ?_⟩
  refine ⟨⟨on_ok _⟩, ?_⟩
  refine by_cond (fun hb hv => ?_) (fun hb hv => ?_) hv
  · subst hv; exact And.intro (by kernel_rfl) (by kernel_rfl)
  · subst hv; exact And.intro (by kernel_rfl) (by kernel_rfl)
def r11Check.ct : Ct El := ctOf r11Check.dec (fun _ => []) (fun x => r11Check.res (r11Check x)) (fun x => r11Check.news (r11Check x))
theorem r11Check.ok : CtOk (mkCx Try.prog S [] 0) 56 r11Check.ct := ct_mk (C := (mkCx Try.prog S tab_sized 0)) (mkCx_ok sigOk mixed tab_sized_ok 0) r11Check.dec_ok (fun x => rfl) 4 (fun x _ => (r11Check.nf_ok x _).mpr (r11Check.key x _ rfl))
def tab_r11Check : List (FuncId × Ct El) := (56, r11Check.ct) :: tab_r17CheckUpdate
theorem tab_r11Check_ok : TabOk Try.prog S tab_r11Check := ⟨r11Check.ok, by kernel_rfl, tab_r17CheckUpdate_ok⟩

/-! wireless/wirelessref11.Widening -/
def r11Widening.res (r : Int) : AV El := .v (.int .i64 (r))
def r11Widening.news (r : Int) : List (AObj El) := []
def r11Widening (ppm : Int) (span : Int) : Int := cond (decide
  ((0 : Int) <
    Int.tmod
      (IntKind.wrap IntKind.i64
        (r11limited span (0 : Int) (1099511627776 : Int) * r11limited ppm (0 : Int) (1000 : Int)))
      (1000000 : Int))) (IntKind.wrap IntKind.i64
  (IntKind.wrap IntKind.i64
      (IntKind.wrap IntKind.i64
          (Int.tdiv
            (IntKind.wrap IntKind.i64
              (r11limited span (0 : Int) (1099511627776 : Int) * r11limited ppm (0 : Int) (1000 : Int)))
            (1000000 : Int)) +
        (1 : Int)) +
    (32 : Int))) (IntKind.wrap IntKind.i64
  (IntKind.wrap IntKind.i64
      (Int.tdiv
        (IntKind.wrap IntKind.i64
          (r11limited span (0 : Int) (1099511627776 : Int) * r11limited ppm (0 : Int) (1000 : Int)))
        (1000000 : Int)) +
    (32 : Int)))
def r11Widening.dec (cs : List (AV El)) : Option (Int × Int) := popI .i64 cs fun a0 c0 => popI .i64 c0 fun a1 c1 => popE c1 (a0, a1)
def r11Widening.enc (x : Int × Int) : List (AV El) := [.v (.int .i64 x.1), .v (.int .i64 x.2)]
theorem r11Widening.dec_ok : ∀ cs x, r11Widening.dec cs = some x → Imp (S := S) cs (r11Widening.enc x) := by
  intro cs x h
  unfold r11Widening.dec at h
  obtain ⟨a0, c0, rfl, h0⟩ := popI_some (S := S) h
  obtain ⟨a1, c1, rfl, h1⟩ := popI_some (S := S) h0
  obtain ⟨rfl, rfl⟩ := popE_some (S := S) h1
  exact (.cons (.cons (.refl _)))
def r11Widening.nf (ppm : Int) (span : Int) (K : AV El → List (AObj El) → Prop) : Prop := Ob ((1000000 : Int) ≠ (0 : Int)) ∧ (Ob ((1000000 : Int) ≠ (0 : Int)) ∧ (cond (decide
  ((0 : Int) <
    Int.tmod
      (IntKind.wrap IntKind.i64
        (r11limited span (0 : Int) (1099511627776 : Int) * r11limited ppm (0 : Int) (1000 : Int)))
      (1000000 : Int))) (K (.v (.int .i64 (IntKind.wrap IntKind.i64
  (IntKind.wrap IntKind.i64
      (IntKind.wrap IntKind.i64
          (Int.tdiv
            (IntKind.wrap IntKind.i64
              (r11limited span (0 : Int) (1099511627776 : Int) * r11limited ppm (0 : Int) (1000 : Int)))
            (1000000 : Int)) +
        (1 : Int)) +
    (32 : Int))))) []) (K (.v (.int .i64 (IntKind.wrap IntKind.i64
  (IntKind.wrap IntKind.i64
      (Int.tdiv
        (IntKind.wrap IntKind.i64
          (r11limited span (0 : Int) (1099511627776 : Int) * r11limited ppm (0 : Int) (1000 : Int)))
        (1000000 : Int)) +
    (32 : Int))))) [])))
theorem r11Widening.nf_ok (ppm : Int) (span : Int) (K : AV El → List (AObj El) → Prop) : evFun (mkCx Try.prog S tab_sized 0) 4 55 [.v (.int .i64 ppm), .v (.int .i64 span)] [] K = r11Widening.nf ppm span K := by kernel_rfl
theorem r11Widening.key (ppm : Int) (span : Int) (v : Int) (hv : v = r11Widening ppm span) : r11Widening.nf ppm span (fun r' H' => Gives r' H' (r11Widening.res v) (r11Widening.news v)) := by
  unfold r11Widening at hv
  unfold r11Widening.nf
  refine ⟨⟨by (try clear hv); (try clear q1 q2); (try clear hk); (try simp only [decide_eq_true_eq, decide_eq_false_iff_not, Bool.not_eq_true, Bool.not_eq_false, Bool.and_eq_true, Bool.or_eq_true, Bool.not_not, cond_and, cond_or, List.length_append, List.length_cons, List.length_nil] at *); (first | omega | (intros; (try simp only [Bool.not_not, cond_and, cond_or, Bool.and_eq_true, decide_eq_true_eq] at *); (exact band_nn rfl _ _)) | (intros; (try simp only [Bool.not_not, cond_and, cond_or, Bool.and_eq_true, decide_eq_true_eq] at *); (exact (wu64s _).2.1)) | (intros; (try simp only [Bool.not_not, cond_and, cond_or, Bool.and_eq_true, decide_eq_true_eq] at *); (simp only [Bool.or_eq_false_iff, Bool.and_eq_false_iff, decide_eq_false_iff_not, decide_eq_true_eq, bne_iff_ne, beq_iff_eq, bne_eq_false_iff_eq, beq_eq_false_iff_ne, ne_eq] at *; omega)) | (intros; omega) | (intros; simp only [Bool.not_not, cond_and, cond_or, Bool.and_eq_true, decide_eq_true_eq] at *; omega) | (intros; simp_all [Bool.not_not]; done))⟩, ?_⟩
  refine ⟨⟨by (try clear hv); (try clear q1 q2); (try clear hk); (try simp only [decide_eq_true_eq, decide_eq_false_iff_not, Bool.not_eq_true, Bool.not_eq_false, Bool.and_eq_true, Bool.or_eq_true, Bool.not_not, cond_and, cond_or, List.length_append, List.length_cons, List.length_nil] at *); (first | omega | (intros; (try simp only [Bool.not_not, cond_and, cond_or, Bool.and_eq_true, decide_eq_true_eq] at *); (exact band_nn rfl _ _)) | (intros; (try simp only [Bool.not_not, cond_and, cond_or, Bool.and_eq_true, decide_eq_true_eq] at *); (exact (wu64s _).2.1)) | (intros; (try simp only [Bool.not_not, cond_and, cond_or, Bool.and_eq_true, decide_eq_true_eq] at *); (simp only [Bool.or_eq_false_iff, Bool.and_eq_false_iff, decide_eq_false_iff_not, decide_eq_true_eq, bne_iff_ne, beq_iff_eq, bne_eq_false_iff_eq, beq_eq_false_iff_ne, ne_eq] at *; omega)) | (intros; omega) | (intros; simp only [Bool.not_not, cond_and, cond_or, Bool.and_eq_true, decide_eq_true_eq] at *; omega) | (intros; simp_all [Bool.not_not]; done))⟩, ?_⟩
  refine by_cond (fun hb hv => ?_) (fun hb hv => ?_) hv
  · subst hv; exact And.intro (by kernel_rfl) (by kernel_rfl)
  · subst hv; exact And.intro (by kernel_rfl) (by kernel_rfl)
def r11Widening.ct : Ct El := ctOf r11Widening.dec (fun _ => []) (fun x => r11Widening.res (r11Widening x.1 x.2)) (fun x => r11Widening.news (r11Widening x.1 x.2))
theorem r11Widening.ok : CtOk (mkCx Try.prog S [] 0) 55 r11Widening.ct := ct_mk (C := (mkCx Try.prog S tab_sized 0)) (mkCx_ok sigOk mixed tab_sized_ok 0) r11Widening.dec_ok (fun x => rfl) 4 (fun x _ => (r11Widening.nf_ok x.1 x.2 _).mpr (r11Widening.key x.1 x.2 _ rfl))
def tab_r11Widening : List (FuncId × Ct El) := (55, r11Widening.ct) :: tab_r11Check
theorem tab_r11Widening_ok : TabOk Try.prog S tab_r11Widening := ⟨r11Widening.ok, by kernel_rfl, tab_r11Check_ok⟩

/-! wireless/clock.Widening -/
def kWidening.res (r : Int) : AV El := .v (.int .i64 (r))
def kWidening.news (r : Int) : List (AObj El) := []
def kWidening (ppm : Int) (span : Int) : Int := IntKind.wrap IntKind.i64
  (IntKind.wrap IntKind.i64
      (Int.tdiv
        (IntKind.wrap IntKind.i64
          (IntKind.wrap IntKind.i64
              (IntKind.wrap IntKind.i64
                  (klimit span (0 : Int) (1099511627776 : Int) * klimit ppm (0 : Int) (1000 : Int)) +
                (1000000 : Int)) -
            (1 : Int)))
        (1000000 : Int)) +
    (32 : Int))
def kWidening.dec (cs : List (AV El)) : Option (Int × Int) := popI .i64 cs fun a0 c0 => popI .i64 c0 fun a1 c1 => popE c1 (a0, a1)
def kWidening.enc (x : Int × Int) : List (AV El) := [.v (.int .i64 x.1), .v (.int .i64 x.2)]
theorem kWidening.dec_ok : ∀ cs x, kWidening.dec cs = some x → Imp (S := S) cs (kWidening.enc x) := by
  intro cs x h
  unfold kWidening.dec at h
  obtain ⟨a0, c0, rfl, h0⟩ := popI_some (S := S) h
  obtain ⟨a1, c1, rfl, h1⟩ := popI_some (S := S) h0
  obtain ⟨rfl, rfl⟩ := popE_some (S := S) h1
  exact (.cons (.cons (.refl _)))
def kWidening.nf (ppm : Int) (span : Int) (K : AV El → List (AObj El) → Prop) : Prop := Ob ((1000000 : Int) ≠ (0 : Int)) ∧ (K (.v (.int .i64 (IntKind.wrap IntKind.i64
  (IntKind.wrap IntKind.i64
      (Int.tdiv
        (IntKind.wrap IntKind.i64
          (IntKind.wrap IntKind.i64
              (IntKind.wrap IntKind.i64
                  (klimit span (0 : Int) (1099511627776 : Int) * klimit ppm (0 : Int) (1000 : Int)) +
                (1000000 : Int)) -
            (1 : Int)))
        (1000000 : Int)) +
    (32 : Int))))) [])
theorem kWidening.nf_ok (ppm : Int) (span : Int) (K : AV El → List (AObj El) → Prop) : evFun (mkCx Try.prog S tab_sized 0) 4 54 [.v (.int .i64 ppm), .v (.int .i64 span)] [] K = kWidening.nf ppm span K := by kernel_rfl
theorem kWidening.key (ppm : Int) (span : Int) (v : Int) (hv : v = kWidening ppm span) : kWidening.nf ppm span (fun r' H' => Gives r' H' (kWidening.res v) (kWidening.news v)) := by
  unfold kWidening at hv
  unfold kWidening.nf
  refine ⟨⟨by (try clear hv); (try clear q1 q2); (try clear hk); (try simp only [decide_eq_true_eq, decide_eq_false_iff_not, Bool.not_eq_true, Bool.not_eq_false, Bool.and_eq_true, Bool.or_eq_true, Bool.not_not, cond_and, cond_or, List.length_append, List.length_cons, List.length_nil] at *); (first | omega | (intros; (try simp only [Bool.not_not, cond_and, cond_or, Bool.and_eq_true, decide_eq_true_eq] at *); (exact band_nn rfl _ _)) | (intros; (try simp only [Bool.not_not, cond_and, cond_or, Bool.and_eq_true, decide_eq_true_eq] at *); (exact (wu64s _).2.1)) | (intros; (try simp only [Bool.not_not, cond_and, cond_or, Bool.and_eq_true, decide_eq_true_eq] at *); (simp only [Bool.or_eq_false_iff, Bool.and_eq_false_iff, decide_eq_false_iff_not, decide_eq_true_eq, bne_iff_ne, beq_iff_eq, bne_eq_false_iff_eq, beq_eq_false_iff_ne, ne_eq] at *; omega)) | (intros; omega) | (intros; simp only [Bool.not_not, cond_and, cond_or, Bool.and_eq_true, decide_eq_true_eq] at *; omega) | (intros; simp_all [Bool.not_not]; done))⟩, ?_⟩
  subst hv; exact And.intro (by kernel_rfl) (by kernel_rfl)
def kWidening.ct : Ct El := ctOf kWidening.dec (fun _ => []) (fun x => kWidening.res (kWidening x.1 x.2)) (fun x => kWidening.news (kWidening x.1 x.2))
theorem kWidening.ok : CtOk (mkCx Try.prog S [] 0) 54 kWidening.ct := ct_mk (C := (mkCx Try.prog S tab_sized 0)) (mkCx_ok sigOk mixed tab_sized_ok 0) kWidening.dec_ok (fun x => rfl) 4 (fun x _ => (kWidening.nf_ok x.1 x.2 _).mpr (kWidening.key x.1 x.2 _ rfl))
def tab_kWidening : List (FuncId × Ct El) := (54, kWidening.ct) :: tab_r11Widening
theorem tab_kWidening_ok : TabOk Try.prog S tab_kWidening := ⟨kWidening.ok, by kernel_rfl, tab_r11Widening_ok⟩

/-! wireless/connect.moment -/
def cmoment.res (r : Int) : AV El := .v (.int .i64 (r))
def cmoment.news (r : Int) : List (AObj El) := []
def cmoment (t : Int) : Int := climit t (0 : Int) (4398046511104 : Int)
def cmoment.dec (cs : List (AV El)) : Option (Int) := popI .i64 cs fun a0 c0 => popE c0 a0
def cmoment.enc (x : Int) : List (AV El) := [.v (.int .i64 x)]
theorem cmoment.dec_ok : ∀ cs x, cmoment.dec cs = some x → Imp (S := S) cs (cmoment.enc x) := by
  intro cs x h
  unfold cmoment.dec at h
  obtain ⟨a0, c0, rfl, h0⟩ := popI_some (S := S) h
  obtain ⟨rfl, rfl⟩ := popE_some (S := S) h0
  exact (.cons (.refl _))
def cmoment.nf (t : Int) (K : AV El → List (AObj El) → Prop) : Prop := K (.v (.int .i64 (climit t (0 : Int) (4398046511104 : Int)))) []
theorem cmoment.nf_ok (t : Int) (K : AV El → List (AObj El) → Prop) : evFun (mkCx Try.prog S tab_sized 0) 4 47 [.v (.int .i64 t)] [] K = cmoment.nf t K := by kernel_rfl
theorem cmoment.key (t : Int) (v : Int) (hv : v = cmoment t) : cmoment.nf t (fun r' H' => Gives r' H' (cmoment.res v) (cmoment.news v)) := by
  unfold cmoment at hv
  unfold cmoment.nf
  subst hv; exact And.intro (by kernel_rfl) (by kernel_rfl)
def cmoment.ct : Ct El := ctOf cmoment.dec (fun _ => []) (fun x => cmoment.res (cmoment x)) (fun x => cmoment.news (cmoment x))
theorem cmoment.ok : CtOk (mkCx Try.prog S [] 0) 47 cmoment.ct := ct_mk (C := (mkCx Try.prog S tab_sized 0)) (mkCx_ok sigOk mixed tab_sized_ok 0) cmoment.dec_ok (fun x => rfl) 4 (fun x _ => (cmoment.nf_ok x _).mpr (cmoment.key x _ rfl))
def tab_cmoment : List (FuncId × Ct El) := (47, cmoment.ct) :: tab_kWidening
theorem tab_cmoment_ok : TabOk Try.prog S tab_cmoment := ⟨cmoment.ok, by kernel_rfl, tab_kWidening_ok⟩

/-! wireless/connect.limited -/
def climited.res (r : Update) : AV El := Update.av (r)
def climited.news (r : Update) : List (AObj El) := []
def climited (u : Update) : Update := (⟨(climit u.WinSize (1 : Int) (8 : Int)), (climit u.WinOffset (0 : Int) (3200 : Int)), (climit u.Interval (6 : Int) (3200 : Int)), (u.Latency), (climit u.Timeout (10 : Int) (3200 : Int))⟩ : Update)
def climited.dec (cs : List (AV El)) : Option (Update) := popA Update.dec cs fun a0 c0 => popE c0 a0
def climited.enc (x : Update) : List (AV El) := [Update.av x]
theorem climited.dec_ok : ∀ cs x, climited.dec cs = some x → Imp (S := S) cs (climited.enc x) := by
  intro cs x h
  unfold climited.dec at h
  obtain ⟨a0, c0, h0, k0⟩ := popA_some (S := S) Update.dec_ok h
  obtain ⟨rfl, rfl⟩ := popE_some (S := S) h0
  exact (k0 _ (.refl _))
def climited.nf (u : Update) (K : AV El → List (AObj El) → Prop) : Prop := K (.agg [.v (.int .i64 (climit u.WinSize (1 : Int) (8 : Int))), .v (.int .i64 (climit u.WinOffset (0 : Int) (3200 : Int))), .v (.int .i64 (climit u.Interval (6 : Int) (3200 : Int))), .v (.int .i64 (u.Latency)), .v (.int .i64 (climit u.Timeout (10 : Int) (3200 : Int)))]) [.cells [.v (.int .i64 (climit u.WinSize (1 : Int) (8 : Int))), .v (.int .i64 (climit u.WinOffset (0 : Int) (3200 : Int))), .v (.int .i64 (climit u.Interval (6 : Int) (3200 : Int))), .v (.int .i64 (u.Latency)), .v (.int .i64 (climit u.Timeout (10 : Int) (3200 : Int)))], .cells [.v (.int .i64 (climit u.WinSize (1 : Int) (8 : Int))), .v (.int .i64 (climit u.WinOffset (0 : Int) (3200 : Int))), .v (.int .i64 (climit u.Interval (6 : Int) (3200 : Int))), .v (.int .i64 (u.Latency)), .v (.int .i64 (climit u.Timeout (10 : Int) (3200 : Int)))]]
theorem climited.nf_ok (u : Update) (K : AV El → List (AObj El) → Prop) : evFun (mkCx Try.prog S tab_sized 0) 4 46 [Update.av u] [] K = climited.nf u K := by kernel_rfl
theorem climited.key (u : Update) (v : Update) (hv : v = climited u) : climited.nf u (fun r' H' => Gives r' H' (climited.res v) (climited.news v)) := by
  unfold climited at hv
  unfold climited.nf
  subst hv; exact And.intro (by kernel_rfl) (by kernel_rfl)
def climited.ct : Ct El := ctOf climited.dec (fun _ => []) (fun x => climited.res (climited x)) (fun x => climited.news (climited x))
theorem climited.ok : CtOk (mkCx Try.prog S [] 0) 46 climited.ct := ct_mk (C := (mkCx Try.prog S tab_sized 0)) (mkCx_ok sigOk mixed tab_sized_ok 0) climited.dec_ok (fun x => rfl) 4 (fun x _ => (climited.nf_ok x _).mpr (climited.key x _ rfl))
def tab_climited : List (FuncId × Ct El) := (46, climited.ct) :: tab_cmoment
theorem tab_climited_ok : TabOk Try.prog S tab_climited := ⟨climited.ok, by kernel_rfl, tab_cmoment_ok⟩

/-! wireless/wirelessref17.place -/
def r17place.res (r : Int) : AV El := .v (.int .i64 (r))
def r17place.news (r : Int) : List (AObj El) := []
def r17place (t : Int) : Int := r17limited t (0 : Int) (4398046511104 : Int)
def r17place.dec (cs : List (AV El)) : Option (Int) := popI .i64 cs fun a0 c0 => popE c0 a0
def r17place.enc (x : Int) : List (AV El) := [.v (.int .i64 x)]
theorem r17place.dec_ok : ∀ cs x, r17place.dec cs = some x → Imp (S := S) cs (r17place.enc x) := by
  intro cs x h
  unfold r17place.dec at h
  obtain ⟨a0, c0, rfl, h0⟩ := popI_some (S := S) h
  obtain ⟨rfl, rfl⟩ := popE_some (S := S) h0
  exact (.cons (.refl _))
def r17place.nf (t : Int) (K : AV El → List (AObj El) → Prop) : Prop := K (.v (.int .i64 (r17limited t (0 : Int) (4398046511104 : Int)))) []
theorem r17place.nf_ok (t : Int) (K : AV El → List (AObj El) → Prop) : evFun (mkCx Try.prog S tab_sized 0) 4 48 [.v (.int .i64 t)] [] K = r17place.nf t K := by kernel_rfl
theorem r17place.key (t : Int) (v : Int) (hv : v = r17place t) : r17place.nf t (fun r' H' => Gives r' H' (r17place.res v) (r17place.news v)) := by
  unfold r17place at hv
  unfold r17place.nf
  subst hv; exact And.intro (by kernel_rfl) (by kernel_rfl)
def r17place.ct : Ct El := ctOf r17place.dec (fun _ => []) (fun x => r17place.res (r17place x)) (fun x => r17place.news (r17place x))
theorem r17place.ok : CtOk (mkCx Try.prog S [] 0) 48 r17place.ct := ct_mk (C := (mkCx Try.prog S tab_sized 0)) (mkCx_ok sigOk mixed tab_sized_ok 0) r17place.dec_ok (fun x => rfl) 4 (fun x _ => (r17place.nf_ok x _).mpr (r17place.key x _ rfl))
def tab_r17place : List (FuncId × Ct El) := (48, r17place.ct) :: tab_climited
theorem tab_r17place_ok : TabOk Try.prog S tab_r17place := ⟨r17place.ok, by kernel_rfl, tab_climited_ok⟩

/-! wireless/wirelessref17.offset -/
def r17offset.res (r : Int) : AV El := .v (.int .i64 (r))
def r17offset.news (r : Int) : List (AObj El) := []
def r17offset (u : Update) : Int := IntKind.wrap IntKind.i64 (r17limited u.WinOffset (0 : Int) (3200 : Int) * (1250 : Int))
def r17offset.dec (cs : List (AV El)) : Option (Update) := popA Update.dec cs fun a0 c0 => popE c0 a0
def r17offset.enc (x : Update) : List (AV El) := [Update.av x]
theorem r17offset.dec_ok : ∀ cs x, r17offset.dec cs = some x → Imp (S := S) cs (r17offset.enc x) := by
  intro cs x h
  unfold r17offset.dec at h
  obtain ⟨a0, c0, h0, k0⟩ := popA_some (S := S) Update.dec_ok h
  obtain ⟨rfl, rfl⟩ := popE_some (S := S) h0
  exact (k0 _ (.refl _))
def r17offset.nf (u : Update) (K : AV El → List (AObj El) → Prop) : Prop := K (.v (.int .i64 (IntKind.wrap IntKind.i64 (r17limited u.WinOffset (0 : Int) (3200 : Int) * (1250 : Int))))) [.cells [.v (.int .i64 (u.WinSize)), .v (.int .i64 (u.WinOffset)), .v (.int .i64 (u.Interval)), .v (.int .i64 (u.Latency)), .v (.int .i64 (u.Timeout))]]
theorem r17offset.nf_ok (u : Update) (K : AV El → List (AObj El) → Prop) : evFun (mkCx Try.prog S tab_sized 0) 4 49 [Update.av u] [] K = r17offset.nf u K := by kernel_rfl
theorem r17offset.key (u : Update) (v : Int) (hv : v = r17offset u) : r17offset.nf u (fun r' H' => Gives r' H' (r17offset.res v) (r17offset.news v)) := by
  unfold r17offset at hv
  unfold r17offset.nf
  subst hv; exact And.intro (by kernel_rfl) (by kernel_rfl)
def r17offset.ct : Ct El := ctOf r17offset.dec (fun _ => []) (fun x => r17offset.res (r17offset x)) (fun x => r17offset.news (r17offset x))
theorem r17offset.ok : CtOk (mkCx Try.prog S [] 0) 49 r17offset.ct := ct_mk (C := (mkCx Try.prog S tab_sized 0)) (mkCx_ok sigOk mixed tab_sized_ok 0) r17offset.dec_ok (fun x => rfl) 4 (fun x _ => (r17offset.nf_ok x _).mpr (r17offset.key x _ rfl))
def tab_r17offset : List (FuncId × Ct El) := (49, r17offset.ct) :: tab_r17place
theorem tab_r17offset_ok : TabOk Try.prog S tab_r17offset := ⟨r17offset.ok, by kernel_rfl, tab_r17place_ok⟩

/-! wireless/wirelessref17.size -/
def r17size.res (r : Int) : AV El := .v (.int .i64 (r))
def r17size.news (r : Int) : List (AObj El) := []
def r17size (u : Update) : Int := IntKind.wrap IntKind.i64 (r17limited u.WinSize (1 : Int) (8 : Int) * (1250 : Int))
def r17size.dec (cs : List (AV El)) : Option (Update) := popA Update.dec cs fun a0 c0 => popE c0 a0
def r17size.enc (x : Update) : List (AV El) := [Update.av x]
theorem r17size.dec_ok : ∀ cs x, r17size.dec cs = some x → Imp (S := S) cs (r17size.enc x) := by
  intro cs x h
  unfold r17size.dec at h
  obtain ⟨a0, c0, h0, k0⟩ := popA_some (S := S) Update.dec_ok h
  obtain ⟨rfl, rfl⟩ := popE_some (S := S) h0
  exact (k0 _ (.refl _))
def r17size.nf (u : Update) (K : AV El → List (AObj El) → Prop) : Prop := K (.v (.int .i64 (IntKind.wrap IntKind.i64 (r17limited u.WinSize (1 : Int) (8 : Int) * (1250 : Int))))) [.cells [.v (.int .i64 (u.WinSize)), .v (.int .i64 (u.WinOffset)), .v (.int .i64 (u.Interval)), .v (.int .i64 (u.Latency)), .v (.int .i64 (u.Timeout))]]
theorem r17size.nf_ok (u : Update) (K : AV El → List (AObj El) → Prop) : evFun (mkCx Try.prog S tab_sized 0) 4 50 [Update.av u] [] K = r17size.nf u K := by kernel_rfl
theorem r17size.key (u : Update) (v : Int) (hv : v = r17size u) : r17size.nf u (fun r' H' => Gives r' H' (r17size.res v) (r17size.news v)) := by
  unfold r17size at hv
  unfold r17size.nf
  subst hv; exact And.intro (by kernel_rfl) (by kernel_rfl)
def r17size.ct : Ct El := ctOf r17size.dec (fun _ => []) (fun x => r17size.res (r17size x)) (fun x => r17size.news (r17size x))
theorem r17size.ok : CtOk (mkCx Try.prog S [] 0) 50 r17size.ct := ct_mk (C := (mkCx Try.prog S tab_sized 0)) (mkCx_ok sigOk mixed tab_sized_ok 0) r17size.dec_ok (fun x => rfl) 4 (fun x _ => (r17size.nf_ok x _).mpr (r17size.key x _ rfl))
def tab_r17size : List (FuncId × Ct El) := (50, r17size.ct) :: tab_r17offset
theorem tab_r17size_ok : TabOk Try.prog S tab_r17size := ⟨r17size.ok, by kernel_rfl, tab_r17offset_ok⟩

/-! wireless/wirelessref17.interval -/
def r17interval.res (r : Int) : AV El := .v (.int .i64 (r))
def r17interval.news (r : Int) : List (AObj El) := []
def r17interval (u : Update) : Int := IntKind.wrap IntKind.i64 (r17limited u.Interval (6 : Int) (3200 : Int) * (1250 : Int))
def r17interval.dec (cs : List (AV El)) : Option (Update) := popA Update.dec cs fun a0 c0 => popE c0 a0
def r17interval.enc (x : Update) : List (AV El) := [Update.av x]
theorem r17interval.dec_ok : ∀ cs x, r17interval.dec cs = some x → Imp (S := S) cs (r17interval.enc x) := by
  intro cs x h
  unfold r17interval.dec at h
  obtain ⟨a0, c0, h0, k0⟩ := popA_some (S := S) Update.dec_ok h
  obtain ⟨rfl, rfl⟩ := popE_some (S := S) h0
  exact (k0 _ (.refl _))
def r17interval.nf (u : Update) (K : AV El → List (AObj El) → Prop) : Prop := K (.v (.int .i64 (IntKind.wrap IntKind.i64 (r17limited u.Interval (6 : Int) (3200 : Int) * (1250 : Int))))) [.cells [.v (.int .i64 (u.WinSize)), .v (.int .i64 (u.WinOffset)), .v (.int .i64 (u.Interval)), .v (.int .i64 (u.Latency)), .v (.int .i64 (u.Timeout))]]
theorem r17interval.nf_ok (u : Update) (K : AV El → List (AObj El) → Prop) : evFun (mkCx Try.prog S tab_sized 0) 4 53 [Update.av u] [] K = r17interval.nf u K := by kernel_rfl
theorem r17interval.key (u : Update) (v : Int) (hv : v = r17interval u) : r17interval.nf u (fun r' H' => Gives r' H' (r17interval.res v) (r17interval.news v)) := by
  unfold r17interval at hv
  unfold r17interval.nf
  subst hv; exact And.intro (by kernel_rfl) (by kernel_rfl)
def r17interval.ct : Ct El := ctOf r17interval.dec (fun _ => []) (fun x => r17interval.res (r17interval x)) (fun x => r17interval.news (r17interval x))
theorem r17interval.ok : CtOk (mkCx Try.prog S [] 0) 53 r17interval.ct := ct_mk (C := (mkCx Try.prog S tab_sized 0)) (mkCx_ok sigOk mixed tab_sized_ok 0) r17interval.dec_ok (fun x => rfl) 4 (fun x _ => (r17interval.nf_ok x _).mpr (r17interval.key x _ rfl))
def tab_r17interval : List (FuncId × Ct El) := (53, r17interval.ct) :: tab_r17size
theorem tab_r17interval_ok : TabOk Try.prog S tab_r17interval := ⟨r17interval.ok, by kernel_rfl, tab_r17size_ok⟩

/-! wireless/wirelesslaw17.deviation -/
def deviation.res (r : Int) : AV El := .v (.int .i64 (r))
def deviation.news (r : Int) : List (AObj El) := []
def deviation (a : Clock) (b : Clock) (more : Int) : Int := IntKind.wrap IntKind.i64
  (IntKind.wrap IntKind.i64
      (maxI a.PPM (IntKind.wrap IntKind.i64 ((0 : Int) - a.PPM)) +
        maxI b.PPM (IntKind.wrap IntKind.i64 ((0 : Int) - b.PPM))) +
    maxI (0 : Int)
      (minI more
        (IntKind.wrap IntKind.i64
          ((1000 : Int) -
            IntKind.wrap IntKind.i64
              (maxI a.PPM (IntKind.wrap IntKind.i64 ((0 : Int) - a.PPM)) +
                maxI b.PPM (IntKind.wrap IntKind.i64 ((0 : Int) - b.PPM)))))))
def deviation.dec (cs : List (AV El)) : Option (Clock × Clock × Int) := popA Clock.dec cs fun a0 c0 => popA Clock.dec c0 fun a1 c1 => popI .i64 c1 fun a2 c2 => popE c2 (a0, a1, a2)
def deviation.enc (x : Clock × Clock × Int) : List (AV El) := [Clock.av x.1, Clock.av x.2.1, .v (.int .i64 x.2.2)]
theorem deviation.dec_ok : ∀ cs x, deviation.dec cs = some x → Imp (S := S) cs (deviation.enc x) := by
  intro cs x h
  unfold deviation.dec at h
  obtain ⟨a0, c0, h0, k0⟩ := popA_some (S := S) Clock.dec_ok h
  obtain ⟨a1, c1, h1, k1⟩ := popA_some (S := S) Clock.dec_ok h0
  obtain ⟨a2, c2, rfl, h2⟩ := popI_some (S := S) h1
  obtain ⟨rfl, rfl⟩ := popE_some (S := S) h2
  exact (k0 _ (k1 _ (.cons (.refl _))))
def deviation.nf (a : Clock) (b : Clock) (more : Int) (K : AV El → List (AObj El) → Prop) : Prop := K (.v (.int .i64 (IntKind.wrap IntKind.i64
  (IntKind.wrap IntKind.i64
      (maxI a.PPM (IntKind.wrap IntKind.i64 ((0 : Int) - a.PPM)) +
        maxI b.PPM (IntKind.wrap IntKind.i64 ((0 : Int) - b.PPM))) +
    maxI (0 : Int)
      (minI more
        (IntKind.wrap IntKind.i64
          ((1000 : Int) -
            IntKind.wrap IntKind.i64
              (maxI a.PPM (IntKind.wrap IntKind.i64 ((0 : Int) - a.PPM)) +
                maxI b.PPM (IntKind.wrap IntKind.i64 ((0 : Int) - b.PPM)))))))))) [.cells [.v (.int .i64 (a.PPM)), .v (.int .i64 (a.Start))], .cells [.v (.int .i64 (b.PPM)), .v (.int .i64 (b.Start))]]
theorem deviation.nf_ok (a : Clock) (b : Clock) (more : Int) (K : AV El → List (AObj El) → Prop) : evFun (mkCx Try.prog S tab_sized 0) 4 34 [Clock.av a, Clock.av b, .v (.int .i64 more)] [] K = deviation.nf a b more K := by kernel_rfl
theorem deviation.key (a : Clock) (b : Clock) (more : Int) (v : Int) (hv : v = deviation a b more) : deviation.nf a b more (fun r' H' => Gives r' H' (deviation.res v) (deviation.news v)) := by
  unfold deviation at hv
  unfold deviation.nf
  subst hv; exact And.intro (by kernel_rfl) (by kernel_rfl)
def deviation.ct : Ct El := ctOf deviation.dec (fun _ => []) (fun x => deviation.res (deviation x.1 x.2.1 x.2.2)) (fun x => deviation.news (deviation x.1 x.2.1 x.2.2))
theorem deviation.ok : CtOk (mkCx Try.prog S [] 0) 34 deviation.ct := ct_mk (C := (mkCx Try.prog S tab_sized 0)) (mkCx_ok sigOk mixed tab_sized_ok 0) deviation.dec_ok (fun x => rfl) 4 (fun x _ => (deviation.nf_ok x.1 x.2.1 x.2.2 _).mpr (deviation.key x.1 x.2.1 x.2.2 _ rfl))
def tab_deviation : List (FuncId × Ct El) := (34, deviation.ct) :: tab_r17interval
theorem tab_deviation_ok : TabOk Try.prog S tab_deviation := ⟨deviation.ok, by kernel_rfl, tab_r17interval_ok⟩

/-! wireless/clock.Local -/
def kLocal.res (r : Int) : AV El := .v (.int .i64 (r))
def kLocal.news (r : Int) : List (AObj El) := []
def kLocal (c : Clock) (t : Int) : Int := cond (decide
  (Int.tmod
      (IntKind.wrap IntKind.i64 (klimit t (0 : Int) (1099511627776 : Int) * klimit c.PPM (-500 : Int) (500 : Int)))
      (1000000 : Int) <
    (0 : Int))) (IntKind.wrap IntKind.i64
  (IntKind.wrap IntKind.i64
      (klimit c.Start (0 : Int) (1099511627776 : Int) + klimit t (0 : Int) (1099511627776 : Int)) +
    IntKind.wrap IntKind.i64
      (IntKind.wrap IntKind.i64
          (Int.tdiv
            (IntKind.wrap IntKind.i64
              (klimit t (0 : Int) (1099511627776 : Int) * klimit c.PPM (-500 : Int) (500 : Int)))
            (1000000 : Int)) -
        (1 : Int)))) (IntKind.wrap IntKind.i64
  (IntKind.wrap IntKind.i64
      (klimit c.Start (0 : Int) (1099511627776 : Int) + klimit t (0 : Int) (1099511627776 : Int)) +
    IntKind.wrap IntKind.i64
      (Int.tdiv
        (IntKind.wrap IntKind.i64 (klimit t (0 : Int) (1099511627776 : Int) * klimit c.PPM (-500 : Int) (500 : Int)))
        (1000000 : Int))))
def kLocal.dec (cs : List (AV El)) : Option (Clock × Int) := popA Clock.dec cs fun a0 c0 => popI .i64 c0 fun a1 c1 => popE c1 (a0, a1)
def kLocal.enc (x : Clock × Int) : List (AV El) := [Clock.av x.1, .v (.int .i64 x.2)]
theorem kLocal.dec_ok : ∀ cs x, kLocal.dec cs = some x → Imp (S := S) cs (kLocal.enc x) := by
  intro cs x h
  unfold kLocal.dec at h
  obtain ⟨a0, c0, h0, k0⟩ := popA_some (S := S) Clock.dec_ok h
  obtain ⟨a1, c1, rfl, h1⟩ := popI_some (S := S) h0
  obtain ⟨rfl, rfl⟩ := popE_some (S := S) h1
  exact (k0 _ (.cons (.refl _)))
def kLocal.nf (c : Clock) (t : Int) (K : AV El → List (AObj El) → Prop) : Prop := Ob ((1000000 : Int) ≠ (0 : Int)) ∧ (Ob ((1000000 : Int) ≠ (0 : Int)) ∧ (cond (decide
  (Int.tmod
      (IntKind.wrap IntKind.i64 (klimit t (0 : Int) (1099511627776 : Int) * klimit c.PPM (-500 : Int) (500 : Int)))
      (1000000 : Int) <
    (0 : Int))) (K (.v (.int .i64 (IntKind.wrap IntKind.i64
  (IntKind.wrap IntKind.i64
      (klimit c.Start (0 : Int) (1099511627776 : Int) + klimit t (0 : Int) (1099511627776 : Int)) +
    IntKind.wrap IntKind.i64
      (IntKind.wrap IntKind.i64
          (Int.tdiv
            (IntKind.wrap IntKind.i64
              (klimit t (0 : Int) (1099511627776 : Int) * klimit c.PPM (-500 : Int) (500 : Int)))
            (1000000 : Int)) -
        (1 : Int)))))) [.cells [.v (.int .i64 (c.PPM)), .v (.int .i64 (c.Start))]]) (K (.v (.int .i64 (IntKind.wrap IntKind.i64
  (IntKind.wrap IntKind.i64
      (klimit c.Start (0 : Int) (1099511627776 : Int) + klimit t (0 : Int) (1099511627776 : Int)) +
    IntKind.wrap IntKind.i64
      (Int.tdiv
        (IntKind.wrap IntKind.i64 (klimit t (0 : Int) (1099511627776 : Int) * klimit c.PPM (-500 : Int) (500 : Int)))
        (1000000 : Int)))))) [.cells [.v (.int .i64 (c.PPM)), .v (.int .i64 (c.Start))]])))
theorem kLocal.nf_ok (c : Clock) (t : Int) (K : AV El → List (AObj El) → Prop) : evFun (mkCx Try.prog S tab_sized 0) 4 33 [Clock.av c, .v (.int .i64 t)] [] K = kLocal.nf c t K := by kernel_rfl
theorem kLocal.key (c : Clock) (t : Int) (v : Int) (hv : v = kLocal c t) : kLocal.nf c t (fun r' H' => Gives r' H' (kLocal.res v) (kLocal.news v)) := by
  unfold kLocal at hv
  unfold kLocal.nf
  refine ⟨⟨by (try clear hv); (try clear q1 q2); (try clear hk); (try simp only [decide_eq_true_eq, decide_eq_false_iff_not, Bool.not_eq_true, Bool.not_eq_false, Bool.and_eq_true, Bool.or_eq_true, Bool.not_not, cond_and, cond_or, List.length_append, List.length_cons, List.length_nil] at *); (first | omega | (intros; (try simp only [Bool.not_not, cond_and, cond_or, Bool.and_eq_true, decide_eq_true_eq] at *); (exact band_nn rfl _ _)) | (intros; (try simp only [Bool.not_not, cond_and, cond_or, Bool.and_eq_true, decide_eq_true_eq] at *); (exact (wu64s _).2.1)) | (intros; (try simp only [Bool.not_not, cond_and, cond_or, Bool.and_eq_true, decide_eq_true_eq] at *); (simp only [Bool.or_eq_false_iff, Bool.and_eq_false_iff, decide_eq_false_iff_not, decide_eq_true_eq, bne_iff_ne, beq_iff_eq, bne_eq_false_iff_eq, beq_eq_false_iff_ne, ne_eq] at *; omega)) | (intros; omega) | (intros; simp only [Bool.not_not, cond_and, cond_or, Bool.and_eq_true, decide_eq_true_eq] at *; omega) | (intros; simp_all [Bool.not_not]; done))⟩, ?_⟩
  refine ⟨⟨by (try clear hv); (try clear q1 q2); (try clear hk); (try simp only [decide_eq_true_eq, decide_eq_false_iff_not, Bool.not_eq_true, Bool.not_eq_false, Bool.and_eq_true, Bool.or_eq_true, Bool.not_not, cond_and, cond_or, List.length_append, List.length_cons, List.length_nil] at *); (first | omega | (intros; (try simp only [Bool.not_not, cond_and, cond_or, Bool.and_eq_true, decide_eq_true_eq] at *); (exact band_nn rfl _ _)) | (intros; (try simp only [Bool.not_not, cond_and, cond_or, Bool.and_eq_true, decide_eq_true_eq] at *); (exact (wu64s _).2.1)) | (intros; (try simp only [Bool.not_not, cond_and, cond_or, Bool.and_eq_true, decide_eq_true_eq] at *); (simp only [Bool.or_eq_false_iff, Bool.and_eq_false_iff, decide_eq_false_iff_not, decide_eq_true_eq, bne_iff_ne, beq_iff_eq, bne_eq_false_iff_eq, beq_eq_false_iff_ne, ne_eq] at *; omega)) | (intros; omega) | (intros; simp only [Bool.not_not, cond_and, cond_or, Bool.and_eq_true, decide_eq_true_eq] at *; omega) | (intros; simp_all [Bool.not_not]; done))⟩, ?_⟩
  refine by_cond (fun hb hv => ?_) (fun hb hv => ?_) hv
  · subst hv; exact And.intro (by kernel_rfl) (by kernel_rfl)
  · subst hv; exact And.intro (by kernel_rfl) (by kernel_rfl)
def kLocal.ct : Ct El := ctOf kLocal.dec (fun _ => []) (fun x => kLocal.res (kLocal x.1 x.2)) (fun x => kLocal.news (kLocal x.1 x.2))
theorem kLocal.ok : CtOk (mkCx Try.prog S [] 0) 33 kLocal.ct := ct_mk (C := (mkCx Try.prog S tab_sized 0)) (mkCx_ok sigOk mixed tab_sized_ok 0) kLocal.dec_ok (fun x => rfl) 4 (fun x _ => (kLocal.nf_ok x.1 x.2 _).mpr (kLocal.key x.1 x.2 _ rfl))
def tab_kLocal : List (FuncId × Ct El) := (33, kLocal.ct) :: tab_deviation
theorem tab_kLocal_ok : TabOk Try.prog S tab_kLocal := ⟨kLocal.ok, by kernel_rfl, tab_deviation_ok⟩

end Go.Aw.W
