/- Contracts of the seat (printed by ct.py). -/
import Derived.Test.YtcpcakglnckpeaaDoorW7
set_option linter.unusedVariables false
set_option linter.unusedSimpArgs false
set_option maxRecDepth 20000
set_option maxHeartbeats 1000000
namespace Go.Aw.W
open Go Go.Aw Go.Proofs
attribute [local irreducible] evCode evFun evOps evDs evOne ctxK loopK loopB subC bodyC headS okH roundK

/-! wireless/wirelessref12.Check -/
def r12Check.res (r : Int) : AV El := .v (.int .i64 (r))
def r12Check.news (r : Int) : List (AObj El) := []
def r12Check (m : Int) : Int := cond (decide (r1Power (37 : Int) ≤ m)) ((5 : Int)) (cond (decide (r12Count m < (2 : Int))) ((1 : Int)) ((0 : Int)))
def r12Check.dec (cs : List (AV El)) : Option (Int) := popI .u64 cs fun a0 c0 => popE c0 a0
def r12Check.enc (x : Int) : List (AV El) := [.v (.int .u64 x)]
theorem r12Check.dec_ok : ∀ cs x, r12Check.dec cs = some x → Imp (S := S) cs (r12Check.enc x) := by
  intro cs x h
  unfold r12Check.dec at h
  obtain ⟨a0, c0, rfl, h0⟩ := popI_some (S := S) h
  obtain ⟨rfl, rfl⟩ := popE_some (S := S) h0
  exact (.cons (.refl _))
def r12Check.nf (m : Int) (K : AV El → List (AObj El) → Prop) : Prop := Ob ((37 : Int) ≤ (9223372036854775807 : Int)) ∧ (cond (decide (r1Power (37 : Int) ≤ m)) (K (.v (.int .i64 ((5 : Int)))) []) (cond (decide (r12Count m < (2 : Int))) (K (.v (.int .i64 ((1 : Int)))) []) (K (.v (.int .i64 ((0 : Int)))) [])))
theorem r12Check.nf_ok (m : Int) (K : AV El → List (AObj El) → Prop) : evFun (mkCx Tryd.prog S tab_r2Put 0) 4 78 [.v (.int .u64 m)] [] K = r12Check.nf m K := by kernel_rfl
theorem r12Check.key (m : Int) (v : Int) (hv : v = r12Check m) : r12Check.nf m (fun r' H' => Gives r' H' (r12Check.res v) (r12Check.news v)) := by
  unfold r12Check at hv
  unfold r12Check.nf
  refine ⟨⟨by (try clear hv); (try clear q1 q2); (try clear hk); (first | omega | ((try simp only [decide_eq_true_eq, decide_eq_false_iff_not, Bool.not_eq_true, Bool.not_eq_false, Bool.and_eq_true, Bool.or_eq_true, Bool.not_not, cond_and, cond_or, List.length_append, List.length_cons, List.length_nil] at *); (first | omega | (intros; (try simp only [Bool.not_not, cond_and, cond_or, Bool.and_eq_true, decide_eq_true_eq] at *); (exact band_nn rfl _ _)) | (intros; (try simp only [Bool.not_not, cond_and, cond_or, Bool.and_eq_true, decide_eq_true_eq] at *); (exact (wu64s _).2.1)) | (intros; (try simp only [Bool.not_not, cond_and, cond_or, Bool.and_eq_true, decide_eq_true_eq] at *); (simp only [Bool.or_eq_false_iff, Bool.and_eq_false_iff, decide_eq_false_iff_not, decide_eq_true_eq, bne_iff_ne, beq_iff_eq, bne_eq_false_iff_eq, beq_eq_false_iff_ne, ne_eq, true_and] at *; omega)) | (intros; (try simp only [Bool.not_not, cond_and, cond_or, Bool.and_eq_true, decide_eq_true_eq] at *); (simp only [List.length_drop, List.length_take, List.length_append, List.length_cons, List.length_nil] at *; omega)) | (intros; (try simp only [Bool.not_not, cond_and, cond_or, Bool.and_eq_true, decide_eq_true_eq] at *); exact r1Power_ne (by omega) (by omega)) | (intros; (try simp only [Bool.not_not, cond_and, cond_or, Bool.and_eq_true, decide_eq_true_eq] at *); (exact aPart_nn _)) | (intros; (try simp only [Bool.not_not, cond_and, cond_or, Bool.and_eq_true, decide_eq_true_eq] at *); (have hpl := prefixes_len; simp only [Bool.or_eq_false_iff, decide_eq_false_iff_not] at *; omega)) | (intros; omega) | (intros; simp only [sized_iff, Bool.not_not, cond_and, cond_or, Bool.and_eq_true, decide_eq_true_eq] at *; omega) | (intros; simp_all [sized_iff, Bool.not_not]; done))))⟩, ?_⟩
  revert hv; refine by_cond2 (fun hb hv => ?_) (fun hb hv => ?_)
  · subst hv; exact And.intro (by kernel_rfl) (by kernel_rfl)
  · revert hv; refine by_cond2 (fun hb hv => ?_) (fun hb hv => ?_)
    · subst hv; exact And.intro (by kernel_rfl) (by kernel_rfl)
    · subst hv; exact And.intro (by kernel_rfl) (by kernel_rfl)
def r12Check.ct : Ct El := ctOf r12Check.dec (fun _ => []) (fun x => r12Check.res (r12Check x)) (fun x => r12Check.news (r12Check x))
theorem r12Check.ok : CtOk (mkCx Tryd.prog S [] 0) 78 r12Check.ct := ct_mk (C := (mkCx Tryd.prog S tab_r2Put 0)) (mkCx_ok sigOk mixed tab_r2Put_ok 0) r12Check.dec_ok (fun x => rfl) 4 (fun x _ => (r12Check.nf_ok x _).mpr (r12Check.key x _ rfl))
def tab_r12Check : List (FuncId × Ct El) := (78, r12Check.ct) :: tab_r2Put
theorem tab_r12Check_ok : TabOk Tryd.prog S tab_r12Check := ⟨r12Check.ok, by kernel_rfl, tab_r2Put_ok⟩

/-! wireless/wirelessref17.fields -/
def r17fields.res (r : (List Field)) : AV El := .gs 0
def r17fields.news (r : (List Field)) : List (AObj El) := [.row 95 (r : List (El 95))]
def r17fields (p : ConnParams) : (List Field) := [{ Size := (4 : Int), Value := IntKind.wrap IntKind.u64 p.Access : Field },
  { Size := (3 : Int), Value := IntKind.wrap IntKind.u64 p.Init : Field },
  { Size := (1 : Int), Value := IntKind.wrap IntKind.u64 p.Update.WinSize : Field },
  { Size := (2 : Int), Value := IntKind.wrap IntKind.u64 p.Update.WinOffset : Field },
  { Size := (2 : Int), Value := IntKind.wrap IntKind.u64 p.Update.Interval : Field },
  { Size := (2 : Int), Value := IntKind.wrap IntKind.u64 p.Update.Latency : Field },
  { Size := (2 : Int), Value := IntKind.wrap IntKind.u64 p.Update.Timeout : Field },
  { Size := (5 : Int), Value := p.Map : Field }, { Size := (1 : Int), Value := IntKind.wrap IntKind.u64 p.Hop : Field },
  { Size := (2 : Int), Value := IntKind.wrap IntKind.u64 p.PPM : Field },
  { Size := (1 : Int), Value := IntKind.wrap IntKind.u64 p.Algorithm : Field }]
def r17fields.dec (cs : List (AV El)) : Option (ConnParams) := popA ConnParams.dec cs fun a0 c0 => popE c0 a0
def r17fields.enc (x : ConnParams) : List (AV El) := [ConnParams.av x]
theorem r17fields.dec_ok : ∀ cs x, r17fields.dec cs = some x → Imp (S := S) cs (r17fields.enc x) := by
  intro cs x h
  unfold r17fields.dec at h
  obtain ⟨a0, c0, h0, k0⟩ := popA_some (S := S) ConnParams.dec_ok h
  obtain ⟨rfl, rfl⟩ := popE_some (S := S) h0
  exact (k0 _ (.refl _))
def r17fields.nf (p : ConnParams) (K : AV El → List (AObj El) → Prop) : Prop := K (.gs 2) [.cells [.v (.int .u32 (p.Access)), .v (.int .u32 (p.Init)), .v (.int .i64 (p.Update.WinSize)), .v (.int .i64 (p.Update.WinOffset)), .v (.int .i64 (p.Update.Interval)), .v (.int .i64 (p.Update.Latency)), .v (.int .i64 (p.Update.Timeout)), .v (.int .u64 (p.Map)), .v (.int .i64 (p.Hop)), .v (.int .i64 (p.PPM)), .v (.int .i64 (p.Algorithm))], .cells [.v (.int .i64 (p.Update.WinSize)), .v (.int .i64 (p.Update.WinOffset)), .v (.int .i64 (p.Update.Interval)), .v (.int .i64 (p.Update.Latency)), .v (.int .i64 (p.Update.Timeout))], .row 95 ([{ Size := (4 : Int), Value := IntKind.wrap IntKind.u64 p.Access : Field },
  { Size := (3 : Int), Value := IntKind.wrap IntKind.u64 p.Init : Field },
  { Size := (1 : Int), Value := IntKind.wrap IntKind.u64 p.Update.WinSize : Field },
  { Size := (2 : Int), Value := IntKind.wrap IntKind.u64 p.Update.WinOffset : Field },
  { Size := (2 : Int), Value := IntKind.wrap IntKind.u64 p.Update.Interval : Field },
  { Size := (2 : Int), Value := IntKind.wrap IntKind.u64 p.Update.Latency : Field },
  { Size := (2 : Int), Value := IntKind.wrap IntKind.u64 p.Update.Timeout : Field },
  { Size := (5 : Int), Value := p.Map : Field }, { Size := (1 : Int), Value := IntKind.wrap IntKind.u64 p.Hop : Field },
  { Size := (2 : Int), Value := IntKind.wrap IntKind.u64 p.PPM : Field },
  { Size := (1 : Int), Value := IntKind.wrap IntKind.u64 p.Algorithm : Field }] : List (El 95))]
theorem r17fields.nf_ok (p : ConnParams) (K : AV El → List (AObj El) → Prop) : evFun (mkCx Tryd.prog S tab_r2Put 0) 4 83 [ConnParams.av p] [] K = r17fields.nf p K := by kernel_rfl
theorem r17fields.key (p : ConnParams) (v : (List Field)) (hv : v = r17fields p) : r17fields.nf p (fun r' H' => Gives r' H' (r17fields.res v) (r17fields.news v)) := by
  unfold r17fields at hv
  unfold r17fields.nf
  subst hv; exact And.intro (by kernel_rfl) (by kernel_rfl)
def r17fields.ct : Ct El := ctOf r17fields.dec (fun _ => []) (fun x => r17fields.res (r17fields x)) (fun x => r17fields.news (r17fields x))
theorem r17fields.ok : CtOk (mkCx Tryd.prog S [] 0) 83 r17fields.ct := ct_mk (C := (mkCx Tryd.prog S tab_r2Put 0)) (mkCx_ok sigOk mixed tab_r2Put_ok 0) r17fields.dec_ok (fun x => rfl) 4 (fun x _ => (r17fields.nf_ok x _).mpr (r17fields.key x _ rfl))
def tab_r17fields : List (FuncId × Ct El) := (83, r17fields.ct) :: tab_r12Check
theorem tab_r17fields_ok : TabOk Tryd.prog S tab_r17fields := ⟨r17fields.ok, by kernel_rfl, tab_r12Check_ok⟩

/-! wireless/connect.Check -/
def cCheck.res (r : Int) : AV El := .v (.int .i64 (r))
def cCheck.news (r : Int) : List (AObj El) := []
def cCheck (p : ConnParams) : Int := cond (bif p.Access == (0 : Int) then true else p.Access == (2391391958 : Int)) ((1 : Int)) (cond (decide ((16777216 : Int) ≤ p.Init)) ((5 : Int)) (cond (cCheckUpdate p.Update != (0 : Int)) (cCheckUpdate p.Update) (cond (kCheck p.Map != (0 : Int)) (kCheck p.Map) (cond (!cwithin
    [{ n := p.Hop, low := (5 : Int), high := (16 : Int) : ConnectSpan },
      { n := p.PPM, low := (0 : Int), high := (500 : Int) : ConnectSpan }]) ((5 : Int)) (cond (bif p.Algorithm != (1 : Int) then p.Algorithm != (2 : Int) else false) ((12 : Int)) ((0 : Int)))))))
def cCheck.dec (cs : List (AV El)) : Option (ConnParams) := popA ConnParams.dec cs fun a0 c0 => popE c0 a0
def cCheck.enc (x : ConnParams) : List (AV El) := [ConnParams.av x]
theorem cCheck.dec_ok : ∀ cs x, cCheck.dec cs = some x → Imp (S := S) cs (cCheck.enc x) := by
  intro cs x h
  unfold cCheck.dec at h
  obtain ⟨a0, c0, h0, k0⟩ := popA_some (S := S) ConnParams.dec_ok h
  obtain ⟨rfl, rfl⟩ := popE_some (S := S) h0
  exact (k0 _ (.refl _))
def cCheck.nf (p : ConnParams) (K : AV El → List (AObj El) → Prop) : Prop := Ob (o3 (!p.Access == (0 : Int))) ∧ (Ob (o3 (!p.Access == (0 : Int))) ∧ (Ob (on (p.Access == (0 : Int))) ∧ (cond (bif p.Access == (0 : Int) then true else p.Access == (2391391958 : Int)) (K (.v (.int .i64 ((1 : Int)))) [.cells [.v (.int .u32 (p.Access)), .v (.int .u32 (p.Init)), .v (.int .i64 (p.Update.WinSize)), .v (.int .i64 (p.Update.WinOffset)), .v (.int .i64 (p.Update.Interval)), .v (.int .i64 (p.Update.Latency)), .v (.int .i64 (p.Update.Timeout)), .v (.int .u64 (p.Map)), .v (.int .i64 (p.Hop)), .v (.int .i64 (p.PPM)), .v (.int .i64 (p.Algorithm))]]) (cond (decide ((16777216 : Int) ≤ p.Init)) (K (.v (.int .i64 ((5 : Int)))) [.cells [.v (.int .u32 (p.Access)), .v (.int .u32 (p.Init)), .v (.int .i64 (p.Update.WinSize)), .v (.int .i64 (p.Update.WinOffset)), .v (.int .i64 (p.Update.Interval)), .v (.int .i64 (p.Update.Latency)), .v (.int .i64 (p.Update.Timeout)), .v (.int .u64 (p.Map)), .v (.int .i64 (p.Hop)), .v (.int .i64 (p.PPM)), .v (.int .i64 (p.Algorithm))]]) (cond (cCheckUpdate p.Update != (0 : Int)) (K (.v (.int .i64 (cCheckUpdate p.Update))) [.cells [.v (.int .u32 (p.Access)), .v (.int .u32 (p.Init)), .v (.int .i64 (p.Update.WinSize)), .v (.int .i64 (p.Update.WinOffset)), .v (.int .i64 (p.Update.Interval)), .v (.int .i64 (p.Update.Latency)), .v (.int .i64 (p.Update.Timeout)), .v (.int .u64 (p.Map)), .v (.int .i64 (p.Hop)), .v (.int .i64 (p.PPM)), .v (.int .i64 (p.Algorithm))]]) (cond (kCheck p.Map != (0 : Int)) (K (.v (.int .i64 (kCheck p.Map))) [.cells [.v (.int .u32 (p.Access)), .v (.int .u32 (p.Init)), .v (.int .i64 (p.Update.WinSize)), .v (.int .i64 (p.Update.WinOffset)), .v (.int .i64 (p.Update.Interval)), .v (.int .i64 (p.Update.Latency)), .v (.int .i64 (p.Update.Timeout)), .v (.int .u64 (p.Map)), .v (.int .i64 (p.Hop)), .v (.int .i64 (p.PPM)), .v (.int .i64 (p.Algorithm))]]) (cond (!cwithin
    [{ n := p.Hop, low := (5 : Int), high := (16 : Int) : ConnectSpan },
      { n := p.PPM, low := (0 : Int), high := (500 : Int) : ConnectSpan }]) (K (.v (.int .i64 ((5 : Int)))) [.cells [.v (.int .u32 (p.Access)), .v (.int .u32 (p.Init)), .v (.int .i64 (p.Update.WinSize)), .v (.int .i64 (p.Update.WinOffset)), .v (.int .i64 (p.Update.Interval)), .v (.int .i64 (p.Update.Latency)), .v (.int .i64 (p.Update.Timeout)), .v (.int .u64 (p.Map)), .v (.int .i64 (p.Hop)), .v (.int .i64 (p.PPM)), .v (.int .i64 (p.Algorithm))], .row 100 ([{ n := p.Hop, low := (5 : Int), high := (16 : Int) : ConnectSpan },
  { n := p.PPM, low := (0 : Int), high := (500 : Int) : ConnectSpan }] : List (El 100))]) (Ob (o3 (p.Algorithm != (1 : Int))) ∧ (Ob (o3 (p.Algorithm != (1 : Int))) ∧ (Ob (o2 (p.Algorithm != (1 : Int))) ∧ (cond (bif p.Algorithm != (1 : Int) then p.Algorithm != (2 : Int) else false) (K (.v (.int .i64 ((12 : Int)))) [.cells [.v (.int .u32 (p.Access)), .v (.int .u32 (p.Init)), .v (.int .i64 (p.Update.WinSize)), .v (.int .i64 (p.Update.WinOffset)), .v (.int .i64 (p.Update.Interval)), .v (.int .i64 (p.Update.Latency)), .v (.int .i64 (p.Update.Timeout)), .v (.int .u64 (p.Map)), .v (.int .i64 (p.Hop)), .v (.int .i64 (p.PPM)), .v (.int .i64 (p.Algorithm))], .row 100 ([{ n := p.Hop, low := (5 : Int), high := (16 : Int) : ConnectSpan },
  { n := p.PPM, low := (0 : Int), high := (500 : Int) : ConnectSpan }] : List (El 100))]) (K (.v (.int .i64 ((0 : Int)))) [.cells [.v (.int .u32 (p.Access)), .v (.int .u32 (p.Init)), .v (.int .i64 (p.Update.WinSize)), .v (.int .i64 (p.Update.WinOffset)), .v (.int .i64 (p.Update.Interval)), .v (.int .i64 (p.Update.Latency)), .v (.int .i64 (p.Update.Timeout)), .v (.int .u64 (p.Map)), .v (.int .i64 (p.Hop)), .v (.int .i64 (p.PPM)), .v (.int .i64 (p.Algorithm))], .row 100 ([{ n := p.Hop, low := (5 : Int), high := (16 : Int) : ConnectSpan },
  { n := p.PPM, low := (0 : Int), high := (500 : Int) : ConnectSpan }] : List (El 100))]))))))))))))
theorem cCheck.nf_ok (p : ConnParams) (K : AV El → List (AObj El) → Prop) : evFun (mkCx Tryd.prog S tab_r2Put 0) 4 53 [ConnParams.av p] [] K = cCheck.nf p K := by kernel_rfl
theorem cCheck.key (p : ConnParams) (v : Int) (hv : v = cCheck p) : cCheck.nf p (fun r' H' => Gives r' H' (cCheck.res v) (cCheck.news v)) := by
  unfold cCheck at hv
  unfold cCheck.nf
  refine ⟨⟨o3_ok _⟩, ?_⟩
  refine ⟨⟨o3_ok _⟩, ?_⟩
  refine ⟨⟨on_ok _⟩, ?_⟩
  revert hv; refine by_cond2 (fun hb hv => ?_) (fun hb hv => ?_)
  · subst hv; exact And.intro (by kernel_rfl) (by kernel_rfl)
  · revert hv; refine by_cond2 (fun hb hv => ?_) (fun hb hv => ?_)
    · subst hv; exact And.intro (by kernel_rfl) (by kernel_rfl)
    · revert hv; refine by_cond2 (fun hb hv => ?_) (fun hb hv => ?_)
      · subst hv; exact And.intro (by kernel_rfl) (by kernel_rfl)
      · revert hv; refine by_cond2 (fun hb hv => ?_) (fun hb hv => ?_)
        · subst hv; exact And.intro (by kernel_rfl) (by kernel_rfl)
        · revert hv; refine by_cond2 (fun hb hv => ?_) (fun hb hv => ?_)
          · subst hv; exact And.intro (by kernel_rfl) (by kernel_rfl)
          · refine ⟨⟨o3_ok _⟩, ?_⟩
            refine ⟨⟨o3_ok _⟩, ?_⟩
            refine ⟨⟨o2_ok _⟩, ?_⟩
            revert hv; refine by_cond2 (fun hb hv => ?_) (fun hb hv => ?_)
            · subst hv; exact And.intro (by kernel_rfl) (by kernel_rfl)
            · subst hv; exact And.intro (by kernel_rfl) (by kernel_rfl)
def cCheck.ct : Ct El := ctOf cCheck.dec (fun _ => []) (fun x => cCheck.res (cCheck x)) (fun x => cCheck.news (cCheck x))
theorem cCheck.ok : CtOk (mkCx Tryd.prog S [] 0) 53 cCheck.ct := ct_mk (C := (mkCx Tryd.prog S tab_r2Put 0)) (mkCx_ok sigOk mixed tab_r2Put_ok 0) cCheck.dec_ok (fun x => rfl) 4 (fun x _ => (cCheck.nf_ok x _).mpr (cCheck.key x _ rfl))
def tab_cCheck : List (FuncId × Ct El) := (53, cCheck.ct) :: tab_r17fields
theorem tab_cCheck_ok : TabOk Tryd.prog S tab_cCheck := ⟨cCheck.ok, by kernel_rfl, tab_r17fields_ok⟩

/-! wireless/wirelessref02.Take -/
def r2Take.res (r : (List Int) × (List Int) × Int) : AV El := .tup [.gs 0, .gs 1, .v (.int .i64 (r.2.2))]
def r2Take.news (r : (List Int) × (List Int) × Int) : List (AObj El) := [.row 23 (r.1 : List (El 23)), .row 5 (r.2.1 : List (El 5))]
def r2Take.go2 (b : List Int) (sizes : List Int) : Nat → Int → (List Int) → (List Int) → (List Int) × (List Int) × Int
  | 0, _, _, _ => ([], [], 0)
  | n0 + 1, j, c, out => cond (decide (j < (↑(List.length sizes) : Int))) (r2Take.go2 b sizes n0 (IntKind.wrap IntKind.i64 (j + (1 : Int))) (List.drop (Int.toNat (List.getD sizes (Int.toNat j) (0 : Int))) (List.take (Int.toNat (↑(List.length c) : Int)) c)) (out ++ [r2Value (List.drop (Int.toNat (0 : Int)) (List.take (Int.toNat (List.getD sizes (Int.toNat j) (0 : Int))) c))])) ((out, [] ++ c, (0 : Int)))
def r2Take.l2hd (b : List Int) (sizes : List Int) (j : Int) (c : List Int) (out : List Int) : St El := { lo := 0, slots := [(10, .v (.int .i64 (j))), (9, .gs 0), (0, .sl 5 (c : List (El 5)) false), (1, .sl 3 (sizes : List (El 3)) false)], n := 66, objs := [.row 23 (out : List (El 23))] }
def r2Take.l2st (b : List Int) (sizes : List Int) (j : Int) (c : List Int) (out : List Int) (J : St El → Prop) (K : AV El → List (AObj El) → Prop) : Prop := (List.length sizes ≤ (9223372036854775807 : Nat)) → (cond (decide (j < (↑(List.length sizes) : Int))) (Ob ((0 : Int) ≤ j ∧ j < (↑(List.length sizes) : Int)) ∧ (Ob ((0 : Int) ≤ (0 : Int) ∧
  (0 : Int) ≤ List.getD sizes (Int.toNat j) (0 : Int) ∧
    List.getD sizes (Int.toNat j) (0 : Int) ≤ (↑(List.length c) : Int)) ∧ (Ob ((List.length out +
      List.length
        [r2Value
            (List.drop (Int.toNat (0 : Int)) (List.take (Int.toNat (List.getD sizes (Int.toNat j) (0 : Int))) c))]) *
    (8 : Nat) ≤
  (140737488355328 : Nat)) ∧ (Ob ((0 : Int) ≤ j ∧ j < (↑(List.length sizes) : Int)) ∧ (Ob ((0 : Int) ≤ List.getD sizes (Int.toNat j) (0 : Int) ∧
  List.getD sizes (Int.toNat j) (0 : Int) ≤ (↑(List.length c) : Int) ∧
    (↑(List.length c) : Int) ≤ (↑(List.length c) : Int)) ∧ (J (r2Take.l2hd b sizes (IntKind.wrap IntKind.i64 (j + (1 : Int))) (List.drop (Int.toNat (List.getD sizes (Int.toNat j) (0 : Int))) (List.take (Int.toNat (↑(List.length c) : Int)) c)) (out ++ [r2Value (List.drop (Int.toNat (0 : Int)) (List.take (Int.toNat (List.getD sizes (Int.toNat j) (0 : Int))) c))])))))))) (Ob (((0 : Nat) + List.length c) * (1 : Nat) ≤ (140737488355328 : Nat)) ∧ (K (.tup [.gs 0, .gs 2, .v (.int .i64 ((0 : Int)))]) [.row 23 (out : List (El 23)), .gone, .row 5 ([] ++ c : List (El 5))])))
theorem r2Take.l2st_ok (b : List Int) (sizes : List Int) (j : Int) (c : List Int) (out : List Int) (J : St El → Prop) (K : AV El → List (AObj El) → Prop) : evCode (mkCx Tryd.prog S tab_cCheck 0) (evFun (mkCx Tryd.prog S tab_cCheck 0) 3) (loopB Tryd.prog 88 [true, true, true, true, true, false, true, false]) (r2Take.l2hd b sizes j c out) (roundK (C := (mkCx Tryd.prog S tab_cCheck 0)) [10, 9, 0, 1] [] J (loopK (mkCx Tryd.prog S tab_cCheck 0) 3 88 [true, true, true, true, true, false, true, false] K)) = r2Take.l2st b sizes j c out J K := by kernel_rfl
def r2Take.l2rng (b : List Int) (sizes : List Int) (n0 : Nat) (j : Int) (c : List Int) (out : List Int) : Prop := 0 ≤ j ∧ j ≤ sizes.length ∧ (sizes.length - j).toNat < n0 ∧ sizes.length ≤ 1099511627776 ∧ out.length ≤ j ∧ (∀ k, k < sizes.length → 1 ≤ sizes.getD k 0 ∧ sizes.getD k 0 ≤ 8) ∧ (sizes.drop j.toNat).sum ≤ c.length ∧ c.length ≤ 140737488355328
theorem r2Take.l2lp (b : List Int) (sizes : List Int) (hp : b.length ≤ 140737488355328 ∧ sizes.length ≤ 1099511627776) (v : (List Int) × (List Int) × Int) (n0 : Nat) (j : Int) (c : List Int) (out : List Int) (hv : v = r2Take.go2 b sizes n0 j c out) (h0 : r2Take.l2rng b sizes n0 j c out) (st : St El) (q1 : okH [10, 9, 0, 1] [] st = true) (q2 : headS [10, 9, 0, 1] [] st = r2Take.l2hd b sizes j c out) : evCode (mkCx Tryd.prog S tab_cCheck 0) (evFun (mkCx Tryd.prog S tab_cCheck 0) 3) (.loop (loopB Tryd.prog 88 [true, true, true, true, true, false, true, false])) st (loopK (mkCx Tryd.prog S tab_cCheck 0) 3 88 [true, true, true, true, true, false, true, false] (fun r' H' => Gives r' H' (r2Take.res v) (r2Take.news v))) := by
  refine loop_ev rfl (evFun_mono _ _) [10, 9, 0, 1] [] (X := Nat × Int × (List Int) × (List Int)) (fun x => r2Take.l2hd b sizes x.2.1 x.2.2.1 x.2.2.2) (fun x => x.1) (fun x => r2Take.l2rng b sizes x.1 x.2.1 x.2.2.1 x.2.2.2 ∧ v = r2Take.go2 b sizes x.1 x.2.1 x.2.2.1 x.2.2.2) (n0, j, c, out) ⟨q1, q2⟩ ⟨h0, hv⟩ ?_
  clear h0 hv q1 q2
  rintro ⟨n0, j, c, out⟩ ⟨hr, hv⟩
  dsimp only at hr hv
  cases n0 with
  | zero => exact absurd hr (by unfold r2Take.l2rng; omega)
  | succ n0 =>
  unfold r2Take.l2rng at hr
  unfold r2Take.go2 at hv
  refine (r2Take.l2st_ok b sizes j c out _ _).mpr ?_
  unfold r2Take.l2st
  intro hlen
  revert hv; refine by_cond2 (fun hb hv => ?_) (fun hb hv => ?_)
  · refine ⟨⟨by (try clear hv); (try clear q1 q2); (try clear hk); (simp only [decide_eq_true_eq, decide_eq_false_iff_not, List.length_append, List.length_cons, List.length_nil, List.length_drop, List.length_take, List.map_cons, List.map_nil, List.sum_cons, List.sum_nil] at *; first | omega | (obtain ⟨r1, r2, r3, r4, r5, ha, hs, r8⟩ := hr; have h1 := ha j.toNat (by omega); have h2 := sumDropI sizes j (by omega) (by omega); have h3 := sumNN sizes ha (j + 1).toNat; omega))⟩, ?_⟩
    refine ⟨⟨by (try clear hv); (try clear q1 q2); (try clear hk); (simp only [decide_eq_true_eq, decide_eq_false_iff_not, List.length_append, List.length_cons, List.length_nil, List.length_drop, List.length_take, List.map_cons, List.map_nil, List.sum_cons, List.sum_nil] at *; first | omega | (obtain ⟨r1, r2, r3, r4, r5, ha, hs, r8⟩ := hr; have h1 := ha j.toNat (by omega); have h2 := sumDropI sizes j (by omega) (by omega); have h3 := sumNN sizes ha (j + 1).toNat; omega))⟩, ?_⟩
    refine ⟨⟨by (try clear hv); (try clear q1 q2); (try clear hk); (simp only [decide_eq_true_eq, decide_eq_false_iff_not, List.length_append, List.length_cons, List.length_nil, List.length_drop, List.length_take, List.map_cons, List.map_nil, List.sum_cons, List.sum_nil] at *; first | omega | (obtain ⟨r1, r2, r3, r4, r5, ha, hs, r8⟩ := hr; have h1 := ha j.toNat (by omega); have h2 := sumDropI sizes j (by omega) (by omega); have h3 := sumNN sizes ha (j + 1).toNat; omega))⟩, ?_⟩
    refine ⟨⟨by (try clear hv); (try clear q1 q2); (try clear hk); (simp only [decide_eq_true_eq, decide_eq_false_iff_not, List.length_append, List.length_cons, List.length_nil, List.length_drop, List.length_take, List.map_cons, List.map_nil, List.sum_cons, List.sum_nil] at *; first | omega | (obtain ⟨r1, r2, r3, r4, r5, ha, hs, r8⟩ := hr; have h1 := ha j.toNat (by omega); have h2 := sumDropI sizes j (by omega) (by omega); have h3 := sumNN sizes ha (j + 1).toNat; omega))⟩, ?_⟩
    refine ⟨⟨by (try clear hv); (try clear q1 q2); (try clear hk); (simp only [decide_eq_true_eq, decide_eq_false_iff_not, List.length_append, List.length_cons, List.length_nil, List.length_drop, List.length_take, List.map_cons, List.map_nil, List.sum_cons, List.sum_nil] at *; first | omega | (obtain ⟨r1, r2, r3, r4, r5, ha, hs, r8⟩ := hr; have h1 := ha j.toNat (by omega); have h2 := sumDropI sizes j (by omega) (by omega); have h3 := sumNN sizes ha (j + 1).toNat; omega))⟩, ?_⟩
    exact ⟨(n0, (IntKind.wrap IntKind.i64 (j + (1 : Int))), (List.drop (Int.toNat (List.getD sizes (Int.toNat j) (0 : Int))) (List.take (Int.toNat (↑(List.length c) : Int)) c)), (out ++ [r2Value (List.drop (Int.toNat (0 : Int)) (List.take (Int.toNat (List.getD sizes (Int.toNat j) (0 : Int))) c))])), (by kernel_rfl), Nat.lt_succ_self n0, (by dsimp only; unfold r2Take.l2rng; (try clear hv); (try clear q1 q2); (try clear hk); (simp only [decide_eq_true_eq, decide_eq_false_iff_not, List.length_append, List.length_cons, List.length_nil, List.length_drop, List.length_take, List.map_cons, List.map_nil, List.sum_cons, List.sum_nil] at *; obtain ⟨r1, r2, r3, r4, r5, ha, hs, r8⟩ := hr; have h1 := ha j.toNat (by omega); have h2 := sumDropI sizes j (by omega) (by omega); have h3 := sumNN sizes ha (j + 1).toNat; have h4 := wi64 (j + (1 : Int)) (by omega) (by omega); rw [h4]; exact ⟨by omega, by omega, by omega, by omega, by omega, ha, by omega, by omega⟩)), hv⟩
  · refine ⟨⟨by (try clear hv); (try clear q1 q2); (try clear hk); (simp only [decide_eq_true_eq, decide_eq_false_iff_not, List.length_append, List.length_cons, List.length_nil, List.length_drop, List.length_take, List.map_cons, List.map_nil, List.sum_cons, List.sum_nil] at *; first | omega | (obtain ⟨r1, r2, r3, r4, r5, ha, hs, r8⟩ := hr; have h1 := ha j.toNat (by omega); have h2 := sumDropI sizes j (by omega) (by omega); have h3 := sumNN sizes ha (j + 1).toNat; omega))⟩, ?_⟩
    subst hv; exact And.intro (by kernel_rfl) (by kernel_rfl)
def r2Take.go1 (b : List Int) (sizes : List Int) : Nat → Int → Int → (List Int) × (List Int) × Int
  | 0, _, _ => ([], [], 0)
  | n0 + 1, i, all => cond (decide (i < (↑(List.length sizes) : Int))) (cond (bif decide (List.getD sizes (Int.toNat i) (0 : Int) < (1 : Int)) then true
else decide ((8 : Int) < List.getD sizes (Int.toNat i) (0 : Int))) (([], [], (5 : Int))) (r2Take.go1 b sizes n0 (IntKind.wrap IntKind.i64 (i + (1 : Int))) (IntKind.wrap IntKind.i64 (all + List.getD sizes (Int.toNat i) (0 : Int))))) (cond (decide ((↑(List.length b) : Int) < all)) (([], [], (3 : Int))) (r2Take.go2 b sizes (sizes.length + 1) ((0 : Int)) (b) ([])))
def r2Take.l1hd (b : List Int) (sizes : List Int) (i : Int) (all : Int) : St El := { lo := 0, slots := [(8, .v (.int .i64 (i))), (7, .v (.int .i64 (all))), (0, .sl 5 (b : List (El 5)) false), (1, .sl 3 (sizes : List (El 3)) false)], n := 66, objs := [] }
def r2Take.l1st (b : List Int) (sizes : List Int) (i : Int) (all : Int) (J : St El → Prop) (K : AV El → List (AObj El) → Prop) : Prop := (List.length sizes ≤ (9223372036854775807 : Nat)) → (cond (decide (i < (↑(List.length sizes) : Int))) (Ob ((0 : Int) ≤ i ∧ i < (↑(List.length sizes) : Int)) ∧ (Ob (o3 (!decide (List.getD sizes (Int.toNat i) (0 : Int) < (1 : Int)))) ∧ (Ob (o3 (!decide (List.getD sizes (Int.toNat i) (0 : Int) < (1 : Int)))) ∧ (Ob ((!decide (List.getD sizes (Int.toNat i) (0 : Int) < (1 : Int))) = true →
  (0 : Int) ≤ i ∧ i < (↑(List.length sizes) : Int)) ∧ (Ob (o3 (!decide (List.getD sizes (Int.toNat i) (0 : Int) < (1 : Int)))) ∧ (Ob (o3 (!decide (List.getD sizes (Int.toNat i) (0 : Int) < (1 : Int)))) ∧ (Ob (on (decide (List.getD sizes (Int.toNat i) (0 : Int) < (1 : Int)))) ∧ (cond (bif decide (List.getD sizes (Int.toNat i) (0 : Int) < (1 : Int)) then true
else decide ((8 : Int) < List.getD sizes (Int.toNat i) (0 : Int))) (K (.tup [.v (.slice none 0 0), .v (.slice none 0 0), .v (.int .i64 ((5 : Int)))]) []) (Ob ((0 : Int) ≤ i ∧ i < (↑(List.length sizes) : Int)) ∧ (J (r2Take.l1hd b sizes (IntKind.wrap IntKind.i64 (i + (1 : Int))) (IntKind.wrap IntKind.i64 (all + List.getD sizes (Int.toNat i) (0 : Int)))))))))))))) ((List.length b ≤ (9223372036854775807 : Nat)) → (cond (decide ((↑(List.length b) : Int) < all)) (K (.tup [.v (.slice none 0 0), .v (.slice none 0 0), .v (.int .i64 ((3 : Int)))]) []) (evCode (mkCx Tryd.prog S tab_cCheck 0) (evFun (mkCx Tryd.prog S tab_cCheck 0) 3) (.loop (loopB Tryd.prog 88 [true, true, true, true, true, false, true, false])) ({ lo := 0, slots := [(10, .v (.int .i64 ((0 : Int)))), (9, .gs 0), (39, .gs 0), (38, .v (.bool (decide ((↑(List.length b) : Int) < all)))), (37, .v (.int .i64 (all))), (36, .v (.int .i64 ((↑(List.length b) : Int)))), (35, .sl 5 (b : List (El 5)) false), (14, .v (.bool (decide (i < (↑(List.length sizes) : Int))))), (13, .v (.int .i64 ((↑(List.length sizes) : Int)))), (12, .sl 3 (sizes : List (El 3)) false), (11, .v (.int .i64 (i))), (8, .v (.int .i64 (i))), (7, .v (.int .i64 (all))), (0, .sl 5 (b : List (El 5)) false), (1, .sl 3 (sizes : List (El 3)) false)], n := 66, objs := [.row 23 ([] : List (El 23))] }) (loopK (mkCx Tryd.prog S tab_cCheck 0) 3 88 [true, true, true, true, true, false, true, false] K)))))
theorem r2Take.l1st_ok (b : List Int) (sizes : List Int) (i : Int) (all : Int) (J : St El → Prop) (K : AV El → List (AObj El) → Prop) : evCode (mkCx Tryd.prog S tab_cCheck 0) (evFun (mkCx Tryd.prog S tab_cCheck 0) 3) (loopB Tryd.prog 88 [true, true, false, true, false]) (r2Take.l1hd b sizes i all) (roundK (C := (mkCx Tryd.prog S tab_cCheck 0)) [8, 7, 0, 1] [] J (loopK (mkCx Tryd.prog S tab_cCheck 0) 3 88 [true, true, false, true, false] K)) = r2Take.l1st b sizes i all J K := by kernel_rfl
def r2Take.l1rng (b : List Int) (sizes : List Int) (n0 : Nat) (i : Int) (all : Int) : Prop := 0 ≤ i ∧ i ≤ sizes.length ∧ (sizes.length - i).toNat < n0 ∧ all = (sizes.take i.toNat).sum ∧ (∀ k, k < i.toNat → 1 ≤ sizes.getD k 0 ∧ sizes.getD k 0 ≤ 8) ∧ all ≤ 8 * i ∧ 0 ≤ all
theorem r2Take.l1lp (b : List Int) (sizes : List Int) (hp : b.length ≤ 140737488355328 ∧ sizes.length ≤ 1099511627776) (v : (List Int) × (List Int) × Int) (n0 : Nat) (i : Int) (all : Int) (hv : v = r2Take.go1 b sizes n0 i all) (h0 : r2Take.l1rng b sizes n0 i all) (st : St El) (q1 : okH [8, 7, 0, 1] [] st = true) (q2 : headS [8, 7, 0, 1] [] st = r2Take.l1hd b sizes i all) : evCode (mkCx Tryd.prog S tab_cCheck 0) (evFun (mkCx Tryd.prog S tab_cCheck 0) 3) (.loop (loopB Tryd.prog 88 [true, true, false, true, false])) st (loopK (mkCx Tryd.prog S tab_cCheck 0) 3 88 [true, true, false, true, false] (fun r' H' => Gives r' H' (r2Take.res v) (r2Take.news v))) := by
  refine loop_ev rfl (evFun_mono _ _) [8, 7, 0, 1] [] (X := Nat × Int × Int) (fun x => r2Take.l1hd b sizes x.2.1 x.2.2) (fun x => x.1) (fun x => r2Take.l1rng b sizes x.1 x.2.1 x.2.2 ∧ v = r2Take.go1 b sizes x.1 x.2.1 x.2.2) (n0, i, all) ⟨q1, q2⟩ ⟨h0, hv⟩ ?_
  clear h0 hv q1 q2
  rintro ⟨n0, i, all⟩ ⟨hr, hv⟩
  dsimp only at hr hv
  cases n0 with
  | zero => exact absurd hr (by unfold r2Take.l1rng; omega)
  | succ n0 =>
  unfold r2Take.l1rng at hr
  unfold r2Take.go1 at hv
  refine (r2Take.l1st_ok b sizes i all _ _).mpr ?_
  unfold r2Take.l1st
  intro hlen
  revert hv; refine by_cond2 (fun hb hv => ?_) (fun hb hv => ?_)
  · refine ⟨⟨by (try clear hv); (try clear q1 q2); (try clear hk); (first | omega | ((try simp only [decide_eq_true_eq, decide_eq_false_iff_not, Bool.not_eq_true, Bool.not_eq_false, Bool.and_eq_true, Bool.or_eq_true, Bool.not_not, cond_and, cond_or, List.length_append, List.length_cons, List.length_nil] at *); (first | omega | (intros; (try simp only [Bool.not_not, cond_and, cond_or, Bool.and_eq_true, decide_eq_true_eq] at *); (exact band_nn rfl _ _)) | (intros; (try simp only [Bool.not_not, cond_and, cond_or, Bool.and_eq_true, decide_eq_true_eq] at *); (exact (wu64s _).2.1)) | (intros; (try simp only [Bool.not_not, cond_and, cond_or, Bool.and_eq_true, decide_eq_true_eq] at *); (simp only [Bool.or_eq_false_iff, Bool.and_eq_false_iff, decide_eq_false_iff_not, decide_eq_true_eq, bne_iff_ne, beq_iff_eq, bne_eq_false_iff_eq, beq_eq_false_iff_ne, ne_eq, true_and] at *; omega)) | (intros; (try simp only [Bool.not_not, cond_and, cond_or, Bool.and_eq_true, decide_eq_true_eq] at *); (simp only [List.length_drop, List.length_take, List.length_append, List.length_cons, List.length_nil] at *; omega)) | (intros; (try simp only [Bool.not_not, cond_and, cond_or, Bool.and_eq_true, decide_eq_true_eq] at *); exact r1Power_ne (by omega) (by omega)) | (intros; (try simp only [Bool.not_not, cond_and, cond_or, Bool.and_eq_true, decide_eq_true_eq] at *); (exact aPart_nn _)) | (intros; (try simp only [Bool.not_not, cond_and, cond_or, Bool.and_eq_true, decide_eq_true_eq] at *); (have hpl := prefixes_len; simp only [Bool.or_eq_false_iff, decide_eq_false_iff_not] at *; omega)) | (intros; omega) | (intros; simp only [sized_iff, Bool.not_not, cond_and, cond_or, Bool.and_eq_true, decide_eq_true_eq] at *; omega) | (intros; simp_all [sized_iff, Bool.not_not]; done))))⟩, ?_⟩
    refine ⟨⟨o3_ok _⟩, ?_⟩
    refine ⟨⟨o3_ok _⟩, ?_⟩
    refine ⟨⟨by (try clear hv); (try clear q1 q2); (try clear hk); (first | omega | ((try simp only [decide_eq_true_eq, decide_eq_false_iff_not, Bool.not_eq_true, Bool.not_eq_false, Bool.and_eq_true, Bool.or_eq_true, Bool.not_not, cond_and, cond_or, List.length_append, List.length_cons, List.length_nil] at *); (first | omega | (intros; (try simp only [Bool.not_not, cond_and, cond_or, Bool.and_eq_true, decide_eq_true_eq] at *); (exact band_nn rfl _ _)) | (intros; (try simp only [Bool.not_not, cond_and, cond_or, Bool.and_eq_true, decide_eq_true_eq] at *); (exact (wu64s _).2.1)) | (intros; (try simp only [Bool.not_not, cond_and, cond_or, Bool.and_eq_true, decide_eq_true_eq] at *); (simp only [Bool.or_eq_false_iff, Bool.and_eq_false_iff, decide_eq_false_iff_not, decide_eq_true_eq, bne_iff_ne, beq_iff_eq, bne_eq_false_iff_eq, beq_eq_false_iff_ne, ne_eq, true_and] at *; omega)) | (intros; (try simp only [Bool.not_not, cond_and, cond_or, Bool.and_eq_true, decide_eq_true_eq] at *); (simp only [List.length_drop, List.length_take, List.length_append, List.length_cons, List.length_nil] at *; omega)) | (intros; (try simp only [Bool.not_not, cond_and, cond_or, Bool.and_eq_true, decide_eq_true_eq] at *); exact r1Power_ne (by omega) (by omega)) | (intros; (try simp only [Bool.not_not, cond_and, cond_or, Bool.and_eq_true, decide_eq_true_eq] at *); (exact aPart_nn _)) | (intros; (try simp only [Bool.not_not, cond_and, cond_or, Bool.and_eq_true, decide_eq_true_eq] at *); (have hpl := prefixes_len; simp only [Bool.or_eq_false_iff, decide_eq_false_iff_not] at *; omega)) | (intros; omega) | (intros; simp only [sized_iff, Bool.not_not, cond_and, cond_or, Bool.and_eq_true, decide_eq_true_eq] at *; omega) | (intros; simp_all [sized_iff, Bool.not_not]; done))))⟩, ?_⟩
    refine ⟨⟨o3_ok _⟩, ?_⟩
    refine ⟨⟨o3_ok _⟩, ?_⟩
    refine ⟨⟨on_ok _⟩, ?_⟩
    revert hv; refine by_cond2 (fun hb hv => ?_) (fun hb hv => ?_)
    · subst hv; exact And.intro (by kernel_rfl) (by kernel_rfl)
    · refine ⟨⟨by (try clear hv); (try clear q1 q2); (try clear hk); (first | omega | ((try simp only [decide_eq_true_eq, decide_eq_false_iff_not, Bool.not_eq_true, Bool.not_eq_false, Bool.and_eq_true, Bool.or_eq_true, Bool.not_not, cond_and, cond_or, List.length_append, List.length_cons, List.length_nil] at *); (first | omega | (intros; (try simp only [Bool.not_not, cond_and, cond_or, Bool.and_eq_true, decide_eq_true_eq] at *); (exact band_nn rfl _ _)) | (intros; (try simp only [Bool.not_not, cond_and, cond_or, Bool.and_eq_true, decide_eq_true_eq] at *); (exact (wu64s _).2.1)) | (intros; (try simp only [Bool.not_not, cond_and, cond_or, Bool.and_eq_true, decide_eq_true_eq] at *); (simp only [Bool.or_eq_false_iff, Bool.and_eq_false_iff, decide_eq_false_iff_not, decide_eq_true_eq, bne_iff_ne, beq_iff_eq, bne_eq_false_iff_eq, beq_eq_false_iff_ne, ne_eq, true_and] at *; omega)) | (intros; (try simp only [Bool.not_not, cond_and, cond_or, Bool.and_eq_true, decide_eq_true_eq] at *); (simp only [List.length_drop, List.length_take, List.length_append, List.length_cons, List.length_nil] at *; omega)) | (intros; (try simp only [Bool.not_not, cond_and, cond_or, Bool.and_eq_true, decide_eq_true_eq] at *); exact r1Power_ne (by omega) (by omega)) | (intros; (try simp only [Bool.not_not, cond_and, cond_or, Bool.and_eq_true, decide_eq_true_eq] at *); (exact aPart_nn _)) | (intros; (try simp only [Bool.not_not, cond_and, cond_or, Bool.and_eq_true, decide_eq_true_eq] at *); (have hpl := prefixes_len; simp only [Bool.or_eq_false_iff, decide_eq_false_iff_not] at *; omega)) | (intros; omega) | (intros; simp only [sized_iff, Bool.not_not, cond_and, cond_or, Bool.and_eq_true, decide_eq_true_eq] at *; omega) | (intros; simp_all [sized_iff, Bool.not_not]; done))))⟩, ?_⟩
      exact ⟨(n0, (IntKind.wrap IntKind.i64 (i + (1 : Int))), (IntKind.wrap IntKind.i64 (all + List.getD sizes (Int.toNat i) (0 : Int)))), (by kernel_rfl), Nat.lt_succ_self n0, (by dsimp only; unfold r2Take.l1rng; (try clear hv); (try clear q1 q2); (try clear hk); (simp only [decide_eq_true_eq, decide_eq_false_iff_not, cond_or, Bool.or_eq_true, Bool.or_eq_false_iff] at *; obtain ⟨r1, r2, r3, r4, r5, r6, r7⟩ := hr; have h2 := sumTakeI sizes i (by omega) (by omega); have h4 := wi64 (i + (1 : Int)) (by omega) (by omega); have h5 := wi64 (all + sizes.getD i.toNat (0 : Int)) (by omega) (by omega); rw [h4, h5]; exact ⟨by omega, by omega, by omega, by omega, (fun k hk => by by_cases hc : k < i.toNat; exact r5 k hc; have hk2 : k = i.toNat := (by omega); rw [hk2]; omega), by omega, by omega⟩)), hv⟩
  · intro hlen
    revert hv; refine by_cond2 (fun hb hv => ?_) (fun hb hv => ?_)
    · subst hv; exact And.intro (by kernel_rfl) (by kernel_rfl)
    · exact r2Take.l2lp b sizes hp v _ _ _ _ hv (by unfold r2Take.l2rng; (try clear hv); (try clear q1 q2); (try clear hk); (simp only [decide_eq_true_eq, decide_eq_false_iff_not] at *; obtain ⟨r1, r2, r3, r4, r5, r6, r7⟩ := hr; have hi : i.toNat = sizes.length := (by omega); rw [hi] at r4 r5; rw [List.take_length] at r4; exact ⟨by omega, by omega, by omega, by omega, by simp, r5, (by simp; omega), by omega⟩)) _ (by kernel_rfl) (by kernel_rfl)
def r2Take (b : List Int) (sizes : List Int) : (List Int) × (List Int) × Int := r2Take.go1 b sizes (sizes.length + 1) ((0 : Int)) ((0 : Int))
def r2Take.dec (cs : List (AV El)) : Option ((List Int) × (List Int)) := popS 5 cs fun a0 c0 => popS 3 c0 fun a1 c1 => popE c1 (a0, a1)
def r2Take.enc (x : (List Int) × (List Int)) : List (AV El) := [.sl 5 (x.1 : List (El 5)) false, .sl 3 (x.2 : List (El 3)) false]
theorem r2Take.dec_ok : ∀ cs x, r2Take.dec cs = some x → Imp (S := S) cs (r2Take.enc x) := by
  intro cs x h
  unfold r2Take.dec at h
  obtain ⟨a0, c0, h0, k0⟩ := popS_some (S := S) (t := 5) h
  obtain ⟨a1, c1, h1, k1⟩ := popS_some (S := S) (t := 3) h0
  obtain ⟨rfl, rfl⟩ := popE_some (S := S) h1
  exact (k0 _ (k1 _ (.refl _)))
def r2Take.nf (b : List Int) (sizes : List Int) (K : AV El → List (AObj El) → Prop) : Prop := evCode (mkCx Tryd.prog S tab_cCheck 0) (evFun (mkCx Tryd.prog S tab_cCheck 0) 3) (.loop (loopB Tryd.prog 88 [true, true, false, true, false])) ({ lo := 0, slots := [(8, .v (.int .i64 ((0 : Int)))), (7, .v (.int .i64 ((0 : Int)))), (6, .v (.int .i64 ((0 : Int)))), (5, .v (.slice none 0 0)), (4, .v (.slice none 0 0)), (0, .sl 5 (b : List (El 5)) false), (1, .sl 3 (sizes : List (El 3)) false)], n := 66, objs := [] }) (loopK (mkCx Tryd.prog S tab_cCheck 0) 3 88 [true, true, false, true, false] K)
theorem r2Take.nf_ok (b : List Int) (sizes : List Int) (K : AV El → List (AObj El) → Prop) : evFun (mkCx Tryd.prog S tab_cCheck 0) 4 88 [.sl 5 (b : List (El 5)) false, .sl 3 (sizes : List (El 3)) false] [] K = r2Take.nf b sizes K := by kernel_rfl
theorem r2Take.key (b : List Int) (sizes : List Int) (hp : b.length ≤ 140737488355328 ∧ sizes.length ≤ 1099511627776) (v : (List Int) × (List Int) × Int) (hv : v = r2Take b sizes) : r2Take.nf b sizes (fun r' H' => Gives r' H' (r2Take.res v) (r2Take.news v)) := by
  unfold r2Take at hv
  unfold r2Take.nf
  exact r2Take.l1lp b sizes hp v _ _ _ hv (by unfold r2Take.l1rng; (try clear hv); (try clear q1 q2); (try clear hk); (refine ⟨by omega, by omega, by omega, by simp, fun k hk => by omega, by omega, by omega⟩)) _ (by kernel_rfl) (by kernel_rfl)
def r2Take.ct : Ct El := ctOf r2Take.dec (fun x => [x.1.length ≤ 140737488355328 ∧ x.2.length ≤ 1099511627776]) (fun x => r2Take.res (r2Take x.1 x.2)) (fun x => r2Take.news (r2Take x.1 x.2))
theorem r2Take.ok : CtOk (mkCx Tryd.prog S [] 0) 88 r2Take.ct := ct_mk (C := (mkCx Tryd.prog S tab_cCheck 0)) (mkCx_ok sigOk mixed tab_cCheck_ok 0) r2Take.dec_ok (fun x => rfl) 4 (fun x hp => (r2Take.nf_ok x.1 x.2 _).mpr (r2Take.key x.1 x.2 (hp _ (List.mem_singleton.2 rfl)) _ rfl))
def tab_r2Take : List (FuncId × Ct El) := (88, r2Take.ct) :: tab_cCheck
theorem tab_r2Take_ok : TabOk Tryd.prog S tab_r2Take := ⟨r2Take.ok, by kernel_rfl, tab_cCheck_ok⟩

end Go.Aw.W
