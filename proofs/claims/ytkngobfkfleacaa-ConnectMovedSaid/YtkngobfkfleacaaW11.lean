/- Contracts of the seat (printed by ct.py). -/
import Derived.Test.YtkngobfkfleacaaW10
set_option linter.unusedVariables false
set_option linter.unusedSimpArgs false
set_option maxRecDepth 20000
set_option maxHeartbeats 1000000
namespace Go.Aw.W
open Go Go.Aw Go.Proofs
attribute [local irreducible] evCode evFun evOps evDs evOne ctxK loopK loopB subC bodyC headS okH roundK

theorem oTake_go2_len (b sizes : List Int) (hs : sizes.length ≤ 1099511627776) : ∀ (n : Nat) (j : Int) (c out : List Int), 0 ≤ j → j ≤ sizes.length → (sizes.length - j).toNat < n → (oTake.go2 b sizes n j c out).1.length = out.length + (sizes.length - j).toNat
  | 0, j, c, out, h, h1, h2 => by omega
  | n + 1, j, c, out, h, h1, h2 => by
    unfold oTake.go2
    by_cases hi : j < sizes.length
    · simp only [hi, decide_true, cond_true]
      rw [wi64 (j + (1 : Int)) (by omega) (by omega), oTake_go2_len b sizes hs n _ _ _ (by omega) (by omega) (by omega)]
      simp only [List.length_append, List.length_singleton]; omega
    · simp only [hi, decide_false, cond_false]; omega
theorem oTake_go1_len (b sizes : List Int) (hs : sizes.length ≤ 1099511627776) : ∀ (n : Nat) (i need : Int), 0 ≤ i → i ≤ sizes.length → (sizes.length - i).toNat < n → (oTake.go1 b sizes n i need).2.2 = 0 → (oTake.go1 b sizes n i need).1.length = sizes.length
  | 0, i, need, h, h1, h2 => by omega
  | n + 1, i, need, h, h1, h2 => by
    unfold oTake.go1
    by_cases hi : i < sizes.length
    · simp only [hi, decide_true, cond_true]
      cases hz : (!sized (List.getD sizes (Int.toNat i) (0 : Int)))
      · simp only [cond_false]
        rw [wi64 (i + (1 : Int)) (by omega) (by omega)]
        exact oTake_go1_len b sizes hs n _ _ (by omega) (by omega) (by omega)
      · simp only [cond_true]; intro h; exact absurd h (by decide)
    · simp only [hi, decide_false, cond_false]
      by_cases hl : (b.length : Int) < need
      · simp only [hl, decide_true, cond_true]; intro h; exact absurd h (by decide)
      · simp only [hl, decide_false, cond_false]; intro _; rw [oTake_go2_len b sizes hs _ _ _ _ (by omega) (by omega) (by omega)]; simp
theorem oTake_len (b sizes : List Int) (hs : sizes.length ≤ 1099511627776) (h : (oTake b sizes).2.2 = 0) : (oTake b sizes).1.length = sizes.length := oTake_go1_len b sizes hs _ _ _ (by omega) (by omega) (by omega) h

theorem r2Take_go2_len (b sizes : List Int) (hs : sizes.length ≤ 1099511627776) : ∀ (n : Nat) (j : Int) (c out : List Int), 0 ≤ j → j ≤ sizes.length → (sizes.length - j).toNat < n → (r2Take.go2 b sizes n j c out).1.length = out.length + (sizes.length - j).toNat
  | 0, j, c, out, h, h1, h2 => by omega
  | n + 1, j, c, out, h, h1, h2 => by
    unfold r2Take.go2
    by_cases hi : j < sizes.length
    · simp only [hi, decide_true, cond_true]
      rw [wi64 (j + (1 : Int)) (by omega) (by omega), r2Take_go2_len b sizes hs n _ _ _ (by omega) (by omega) (by omega)]
      simp only [List.length_append, List.length_singleton]; omega
    · simp only [hi, decide_false, cond_false]; omega
theorem r2Take_go1_len (b sizes : List Int) (hs : sizes.length ≤ 1099511627776) : ∀ (n : Nat) (i need : Int), 0 ≤ i → i ≤ sizes.length → (sizes.length - i).toNat < n → (r2Take.go1 b sizes n i need).2.2 = 0 → (r2Take.go1 b sizes n i need).1.length = sizes.length
  | 0, i, need, h, h1, h2 => by omega
  | n + 1, i, need, h, h1, h2 => by
    unfold r2Take.go1
    by_cases hi : i < sizes.length
    · simp only [hi, decide_true, cond_true]
      cases hz : (bif decide (List.getD sizes (Int.toNat i) (0 : Int) < (1 : Int)) then true else decide ((8 : Int) < List.getD sizes (Int.toNat i) (0 : Int)))
      · simp only [cond_false]
        rw [wi64 (i + (1 : Int)) (by omega) (by omega)]
        exact r2Take_go1_len b sizes hs n _ _ (by omega) (by omega) (by omega)
      · simp only [cond_true]; intro h; exact absurd h (by decide)
    · simp only [hi, decide_false, cond_false]
      by_cases hl : (b.length : Int) < need
      · simp only [hl, decide_true, cond_true]; intro h; exact absurd h (by decide)
      · simp only [hl, decide_false, cond_false]; intro _; rw [r2Take_go2_len b sizes hs _ _ _ _ (by omega) (by omega) (by omega)]; simp
theorem r2Take_len (b sizes : List Int) (hs : sizes.length ≤ 1099511627776) (h : (r2Take b sizes).2.2 = 0) : (r2Take b sizes).1.length = sizes.length := r2Take_go1_len b sizes hs _ _ _ (by omega) (by omega) (by omega) h

/-! wireless/connect.Encode -/
def cEncode.res (r : (List Int) × Int) : AV El := .tup [.sl 5 (r.1 : List (El 5)) false, .v (.int .i64 (r.2))]
def cEncode.news (r : (List Int) × Int) : List (AObj El) := []
def cEncode (p : ConnParams) : (List Int) × Int := cond (cCheck p != (0 : Int)) (([], cCheck p)) (((oPut
    [cField (4 : Int) (IntKind.wrap IntKind.i64 p.Access), cField (3 : Int) (IntKind.wrap IntKind.i64 p.Init),
      cField (1 : Int) p.Update.WinSize, cField (2 : Int) p.Update.WinOffset, cField (2 : Int) p.Update.Interval,
      cField (2 : Int) p.Update.Latency, cField (2 : Int) p.Update.Timeout,
      cField (5 : Int) (IntKind.wrap IntKind.i64 p.Map), cField (1 : Int) p.Hop, cField (2 : Int) p.PPM,
      cField (1 : Int) p.Algorithm]).fst, (oPut
    [cField (4 : Int) (IntKind.wrap IntKind.i64 p.Access), cField (3 : Int) (IntKind.wrap IntKind.i64 p.Init),
      cField (1 : Int) p.Update.WinSize, cField (2 : Int) p.Update.WinOffset, cField (2 : Int) p.Update.Interval,
      cField (2 : Int) p.Update.Latency, cField (2 : Int) p.Update.Timeout,
      cField (5 : Int) (IntKind.wrap IntKind.i64 p.Map), cField (1 : Int) p.Hop, cField (2 : Int) p.PPM,
      cField (1 : Int) p.Algorithm]).snd))
def cEncode.dec (cs : List (AV El)) : Option (ConnParams) := popA ConnParams.dec cs fun a0 c0 => popE c0 a0
def cEncode.enc (x : ConnParams) : List (AV El) := [ConnParams.av x]
theorem cEncode.dec_ok : ∀ cs x, cEncode.dec cs = some x → Imp (S := S) cs (cEncode.enc x) := by
  intro cs x h
  unfold cEncode.dec at h
  obtain ⟨a0, c0, h0, k0⟩ := popA_some (S := S) ConnParams.dec_ok h
  obtain ⟨rfl, rfl⟩ := popE_some (S := S) h0
  exact (k0 _ (.refl _))
def cEncode.nf (p : ConnParams) (K : AV El → List (AObj El) → Prop) : Prop := cond (cCheck p != (0 : Int)) (K (.tup [.v (.slice none 0 0), .v (.int .i64 (cCheck p))]) [.cells [.v (.int .u32 (p.Access)), .v (.int .u32 (p.Init)), .v (.int .i64 (p.Update.WinSize)), .v (.int .i64 (p.Update.WinOffset)), .v (.int .i64 (p.Update.Interval)), .v (.int .i64 (p.Update.Latency)), .v (.int .i64 (p.Update.Timeout)), .v (.int .u64 (p.Map)), .v (.int .i64 (p.Hop)), .v (.int .i64 (p.PPM)), .v (.int .i64 (p.Algorithm))]]) (Ob (List.length
    [cField (4 : Int) (IntKind.wrap IntKind.i64 p.Access), cField (3 : Int) (IntKind.wrap IntKind.i64 p.Init),
      cField (1 : Int) p.Update.WinSize, cField (2 : Int) p.Update.WinOffset, cField (2 : Int) p.Update.Interval,
      cField (2 : Int) p.Update.Latency, cField (2 : Int) p.Update.Timeout,
      cField (5 : Int) (IntKind.wrap IntKind.i64 p.Map), cField (1 : Int) p.Hop, cField (2 : Int) p.PPM,
      cField (1 : Int) p.Algorithm] ≤
  (1099511627776 : Nat)) ∧ (K (.tup [.sl 5 ((oPut
    [cField (4 : Int) (IntKind.wrap IntKind.i64 p.Access), cField (3 : Int) (IntKind.wrap IntKind.i64 p.Init),
      cField (1 : Int) p.Update.WinSize, cField (2 : Int) p.Update.WinOffset, cField (2 : Int) p.Update.Interval,
      cField (2 : Int) p.Update.Latency, cField (2 : Int) p.Update.Timeout,
      cField (5 : Int) (IntKind.wrap IntKind.i64 p.Map), cField (1 : Int) p.Hop, cField (2 : Int) p.PPM,
      cField (1 : Int) p.Algorithm]).fst) false, .v (.int .i64 ((oPut
    [cField (4 : Int) (IntKind.wrap IntKind.i64 p.Access), cField (3 : Int) (IntKind.wrap IntKind.i64 p.Init),
      cField (1 : Int) p.Update.WinSize, cField (2 : Int) p.Update.WinOffset, cField (2 : Int) p.Update.Interval,
      cField (2 : Int) p.Update.Latency, cField (2 : Int) p.Update.Timeout,
      cField (5 : Int) (IntKind.wrap IntKind.i64 p.Map), cField (1 : Int) p.Hop, cField (2 : Int) p.PPM,
      cField (1 : Int) p.Algorithm]).snd))]) [.cells [.v (.int .u32 (p.Access)), .v (.int .u32 (p.Init)), .v (.int .i64 (p.Update.WinSize)), .v (.int .i64 (p.Update.WinOffset)), .v (.int .i64 (p.Update.Interval)), .v (.int .i64 (p.Update.Latency)), .v (.int .i64 (p.Update.Timeout)), .v (.int .u64 (p.Map)), .v (.int .i64 (p.Hop)), .v (.int .i64 (p.PPM)), .v (.int .i64 (p.Algorithm))], .cells [.v (.int .i64 (p.Update.WinSize)), .v (.int .i64 (p.Update.WinOffset)), .v (.int .i64 (p.Update.Interval)), .v (.int .i64 (p.Update.Latency)), .v (.int .i64 (p.Update.Timeout))]]))
theorem cEncode.nf_ok (p : ConnParams) (K : AV El → List (AObj El) → Prop) : evFun (mkCx Try.prog S tab_r2Take 0) 4 16 [ConnParams.av p] [] K = cEncode.nf p K := by kernel_rfl
theorem cEncode.key (p : ConnParams) (v : (List Int) × Int) (hv : v = cEncode p) : cEncode.nf p (fun r' H' => Gives r' H' (cEncode.res v) (cEncode.news v)) := by
  unfold cEncode at hv
  unfold cEncode.nf
  refine by_cond (fun hb hv => ?_) (fun hb hv => ?_) hv
  · subst hv; exact And.intro (by kernel_rfl) (by kernel_rfl)
  · refine ⟨⟨by (try clear hv); (try clear q1 q2); (try clear hk); (try simp only [decide_eq_true_eq, decide_eq_false_iff_not, Bool.not_eq_true, Bool.not_eq_false, Bool.and_eq_true, Bool.or_eq_true, Bool.not_not, cond_and, cond_or, List.length_append, List.length_cons, List.length_nil] at *); have := wi64s p.Access; have := wi64s p.Init; have := wi64s p.Map; (first | omega | (intros; (try simp only [Bool.not_not, cond_and, cond_or, Bool.and_eq_true, decide_eq_true_eq] at *); ((try simp only [bne_eq_false_iff_eq] at *); have hl := oTake_len b [4, 3, 1, 2, 2, 2, 2, 5, 1, 2, 1] (by decide) (by assumption); simp only [List.length_cons, List.length_nil] at hl; omega)) | (intros; (try simp only [Bool.not_not, cond_and, cond_or, Bool.and_eq_true, decide_eq_true_eq] at *); ((try simp only [bne_eq_false_iff_eq] at *); have hl := r2Take_len b [4, 3, 1, 2, 2, 2, 2, 5, 1, 2, 1] (by decide) (by assumption); simp only [List.length_cons, List.length_nil] at hl; omega)) | (intros; (try simp only [Bool.not_not, cond_and, cond_or, Bool.and_eq_true, decide_eq_true_eq] at *); (simp [r17fields]; done)) | (intros; omega) | (intros; simp only [sized_iff, r17fields, Bool.not_not, cond_and, cond_or, Bool.and_eq_true, decide_eq_true_eq] at *; omega) | (intros; simp_all [sized_iff, r17fields, Bool.not_not]; done))⟩, ?_⟩
    subst hv; exact And.intro (by kernel_rfl) (by kernel_rfl)
def cEncode.ct : Ct El := ctOf cEncode.dec (fun _ => []) (fun x => cEncode.res (cEncode x)) (fun x => cEncode.news (cEncode x))
theorem cEncode.ok : CtOk (mkCx Try.prog S [] 0) 16 cEncode.ct := ct_mk (C := (mkCx Try.prog S tab_r2Take 0)) (mkCx_ok sigOk mixed tab_r2Take_ok 0) cEncode.dec_ok (fun x => rfl) 4 (fun x _ => (cEncode.nf_ok x _).mpr (cEncode.key x _ rfl))
def tab_cEncode : List (FuncId × Ct El) := (16, cEncode.ct) :: tab_r2Take
theorem tab_cEncode_ok : TabOk Try.prog S tab_cEncode := ⟨cEncode.ok, by kernel_rfl, tab_r2Take_ok⟩

/-! wireless/wirelessref17.Check -/
def r17Check.res (r : Int) : AV El := .v (.int .i64 (r))
def r17Check.news (r : Int) : List (AObj El) := []
def r17Check (p : ConnParams) : Int := cond (bif p.Access == (0 : Int) then true else p.Access == (2391391958 : Int)) ((1 : Int)) (cond (decide ((16777216 : Int) ≤ p.Init)) ((5 : Int)) (cond (r17CheckUpdate p.Update != (0 : Int)) (r17CheckUpdate p.Update) (cond (r12Check p.Map != (0 : Int)) (r12Check p.Map) (cond (bif !r17within p.Hop (5 : Int) (16 : Int) then true else !r17within p.PPM (0 : Int) (500 : Int)) ((5 : Int)) (cond (bif p.Algorithm != (1 : Int) then p.Algorithm != (2 : Int) else false) ((12 : Int)) ((0 : Int)))))))
def r17Check.dec (cs : List (AV El)) : Option (ConnParams) := popA ConnParams.dec cs fun a0 c0 => popE c0 a0
def r17Check.enc (x : ConnParams) : List (AV El) := [ConnParams.av x]
theorem r17Check.dec_ok : ∀ cs x, r17Check.dec cs = some x → Imp (S := S) cs (r17Check.enc x) := by
  intro cs x h
  unfold r17Check.dec at h
  obtain ⟨a0, c0, h0, k0⟩ := popA_some (S := S) ConnParams.dec_ok h
  obtain ⟨rfl, rfl⟩ := popE_some (S := S) h0
  exact (k0 _ (.refl _))
def r17Check.nf (p : ConnParams) (K : AV El → List (AObj El) → Prop) : Prop := Ob (o3 (!p.Access == (0 : Int))) ∧ (Ob (o3 (!p.Access == (0 : Int))) ∧ (Ob (on (p.Access == (0 : Int))) ∧ (cond (bif p.Access == (0 : Int) then true else p.Access == (2391391958 : Int)) (K (.v (.int .i64 ((1 : Int)))) [.cells [.v (.int .u32 (p.Access)), .v (.int .u32 (p.Init)), .v (.int .i64 (p.Update.WinSize)), .v (.int .i64 (p.Update.WinOffset)), .v (.int .i64 (p.Update.Interval)), .v (.int .i64 (p.Update.Latency)), .v (.int .i64 (p.Update.Timeout)), .v (.int .u64 (p.Map)), .v (.int .i64 (p.Hop)), .v (.int .i64 (p.PPM)), .v (.int .i64 (p.Algorithm))]]) (cond (decide ((16777216 : Int) ≤ p.Init)) (K (.v (.int .i64 ((5 : Int)))) [.cells [.v (.int .u32 (p.Access)), .v (.int .u32 (p.Init)), .v (.int .i64 (p.Update.WinSize)), .v (.int .i64 (p.Update.WinOffset)), .v (.int .i64 (p.Update.Interval)), .v (.int .i64 (p.Update.Latency)), .v (.int .i64 (p.Update.Timeout)), .v (.int .u64 (p.Map)), .v (.int .i64 (p.Hop)), .v (.int .i64 (p.PPM)), .v (.int .i64 (p.Algorithm))]]) (cond (r17CheckUpdate p.Update != (0 : Int)) (K (.v (.int .i64 (r17CheckUpdate p.Update))) [.cells [.v (.int .u32 (p.Access)), .v (.int .u32 (p.Init)), .v (.int .i64 (p.Update.WinSize)), .v (.int .i64 (p.Update.WinOffset)), .v (.int .i64 (p.Update.Interval)), .v (.int .i64 (p.Update.Latency)), .v (.int .i64 (p.Update.Timeout)), .v (.int .u64 (p.Map)), .v (.int .i64 (p.Hop)), .v (.int .i64 (p.PPM)), .v (.int .i64 (p.Algorithm))]]) (cond (r12Check p.Map != (0 : Int)) (K (.v (.int .i64 (r12Check p.Map))) [.cells [.v (.int .u32 (p.Access)), .v (.int .u32 (p.Init)), .v (.int .i64 (p.Update.WinSize)), .v (.int .i64 (p.Update.WinOffset)), .v (.int .i64 (p.Update.Interval)), .v (.int .i64 (p.Update.Latency)), .v (.int .i64 (p.Update.Timeout)), .v (.int .u64 (p.Map)), .v (.int .i64 (p.Hop)), .v (.int .i64 (p.PPM)), .v (.int .i64 (p.Algorithm))]]) (Ob (o3 (!!r17within p.Hop (5 : Int) (16 : Int))) ∧ (Ob (o3 (!!r17within p.Hop (5 : Int) (16 : Int))) ∧ (Ob (o3 (!!r17within p.Hop (5 : Int) (16 : Int))) ∧ (Ob (on (!r17within p.Hop (5 : Int) (16 : Int))) ∧ (cond (bif !r17within p.Hop (5 : Int) (16 : Int) then true else !r17within p.PPM (0 : Int) (500 : Int)) (K (.v (.int .i64 ((5 : Int)))) [.cells [.v (.int .u32 (p.Access)), .v (.int .u32 (p.Init)), .v (.int .i64 (p.Update.WinSize)), .v (.int .i64 (p.Update.WinOffset)), .v (.int .i64 (p.Update.Interval)), .v (.int .i64 (p.Update.Latency)), .v (.int .i64 (p.Update.Timeout)), .v (.int .u64 (p.Map)), .v (.int .i64 (p.Hop)), .v (.int .i64 (p.PPM)), .v (.int .i64 (p.Algorithm))]]) (Ob (o3 (p.Algorithm != (1 : Int))) ∧ (Ob (o3 (p.Algorithm != (1 : Int))) ∧ (Ob (o2 (p.Algorithm != (1 : Int))) ∧ (cond (bif p.Algorithm != (1 : Int) then p.Algorithm != (2 : Int) else false) (K (.v (.int .i64 ((12 : Int)))) [.cells [.v (.int .u32 (p.Access)), .v (.int .u32 (p.Init)), .v (.int .i64 (p.Update.WinSize)), .v (.int .i64 (p.Update.WinOffset)), .v (.int .i64 (p.Update.Interval)), .v (.int .i64 (p.Update.Latency)), .v (.int .i64 (p.Update.Timeout)), .v (.int .u64 (p.Map)), .v (.int .i64 (p.Hop)), .v (.int .i64 (p.PPM)), .v (.int .i64 (p.Algorithm))]]) (K (.v (.int .i64 ((0 : Int)))) [.cells [.v (.int .u32 (p.Access)), .v (.int .u32 (p.Init)), .v (.int .i64 (p.Update.WinSize)), .v (.int .i64 (p.Update.WinOffset)), .v (.int .i64 (p.Update.Interval)), .v (.int .i64 (p.Update.Latency)), .v (.int .i64 (p.Update.Timeout)), .v (.int .u64 (p.Map)), .v (.int .i64 (p.Hop)), .v (.int .i64 (p.PPM)), .v (.int .i64 (p.Algorithm))]]))))))))))))))))
theorem r17Check.nf_ok (p : ConnParams) (K : AV El → List (AObj El) → Prop) : evFun (mkCx Try.prog S tab_r2Take 0) 4 15 [ConnParams.av p] [] K = r17Check.nf p K := by kernel_rfl
theorem r17Check.key (p : ConnParams) (v : Int) (hv : v = r17Check p) : r17Check.nf p (fun r' H' => Gives r' H' (r17Check.res v) (r17Check.news v)) := by
  unfold r17Check at hv
  unfold r17Check.nf
  refine ⟨⟨o3_ok _⟩, ?_⟩
  refine ⟨⟨o3_ok _⟩, ?_⟩
  refine ⟨⟨on_ok _⟩, ?_⟩
  refine by_cond (fun hb hv => ?_) (fun hb hv => ?_) hv
  · subst hv; exact And.intro (by kernel_rfl) (by kernel_rfl)
  · refine by_cond (fun hb hv => ?_) (fun hb hv => ?_) hv
    · subst hv; exact And.intro (by kernel_rfl) (by kernel_rfl)
    · refine by_cond (fun hb hv => ?_) (fun hb hv => ?_) hv
      · subst hv; exact And.intro (by kernel_rfl) (by kernel_rfl)
      · refine by_cond (fun hb hv => ?_) (fun hb hv => ?_) hv
        · subst hv; exact And.intro (by kernel_rfl) (by kernel_rfl)
        · refine ⟨⟨o3_ok _⟩, ?_⟩
          refine ⟨⟨o3_ok _⟩, ?_⟩
          refine ⟨⟨o3_ok _⟩, ?_⟩
          refine ⟨⟨on_ok _⟩, ?_⟩
          refine by_cond (fun hb hv => ?_) (fun hb hv => ?_) hv
          · subst hv; exact And.intro (by kernel_rfl) (by kernel_rfl)
          · refine ⟨⟨o3_ok _⟩, ?_⟩
            refine ⟨⟨o3_ok _⟩, ?_⟩
            refine ⟨⟨o2_ok _⟩, ?_⟩
            refine by_cond (fun hb hv => ?_) (fun hb hv => ?_) hv
            · subst hv; exact And.intro (by kernel_rfl) (by kernel_rfl)
            · subst hv; exact And.intro (by kernel_rfl) (by kernel_rfl)
def r17Check.ct : Ct El := ctOf r17Check.dec (fun _ => []) (fun x => r17Check.res (r17Check x)) (fun x => r17Check.news (r17Check x))
theorem r17Check.ok : CtOk (mkCx Try.prog S [] 0) 15 r17Check.ct := ct_mk (C := (mkCx Try.prog S tab_r2Take 0)) (mkCx_ok sigOk mixed tab_r2Take_ok 0) r17Check.dec_ok (fun x => rfl) 4 (fun x _ => (r17Check.nf_ok x _).mpr (r17Check.key x _ rfl))
def tab_r17Check : List (FuncId × Ct El) := (15, r17Check.ct) :: tab_cEncode
theorem tab_r17Check_ok : TabOk Try.prog S tab_r17Check := ⟨r17Check.ok, by kernel_rfl, tab_cEncode_ok⟩

/-! wireless/connect.Decode -/
def cDecode.res (r : ConnParams × Int) : AV El := .tup [ConnParams.av (r.1), .v (.int .i64 (r.2))]
def cDecode.news (r : ConnParams × Int) : List (AObj El) := []
def cDecode (b : List Int) : ConnParams × Int := cond ((oTake b
        [(4 : Int), (3 : Int), (1 : Int), (2 : Int), (2 : Int), (2 : Int), (2 : Int), (5 : Int), (1 : Int), (2 : Int),
          (1 : Int)]).snd.snd !=
  (0 : Int)) (((⟨((0 : Int)), ((0 : Int)), ⟨((0 : Int)), ((0 : Int)), ((0 : Int)), ((0 : Int)), ((0 : Int))⟩, ((0 : Int)), ((0 : Int)), ((0 : Int)), ((0 : Int))⟩ : ConnParams), (oTake b
      [(4 : Int), (3 : Int), (1 : Int), (2 : Int), (2 : Int), (2 : Int), (2 : Int), (5 : Int), (1 : Int), (2 : Int),
        (1 : Int)]).snd.snd)) (cond (decide
  ((0 : Int) <
    (↑(List.length
          (oTake b
                [(4 : Int), (3 : Int), (1 : Int), (2 : Int), (2 : Int), (2 : Int), (2 : Int), (5 : Int), (1 : Int),
                  (2 : Int), (1 : Int)]).snd.fst) :
      Int))) (((⟨((0 : Int)), ((0 : Int)), ⟨((0 : Int)), ((0 : Int)), ((0 : Int)), ((0 : Int)), ((0 : Int))⟩, ((0 : Int)), ((0 : Int)), ((0 : Int)), ((0 : Int))⟩ : ConnParams), (2 : Int))) (cond (cCheck
    {
      Access :=
        IntKind.wrap IntKind.u32
          (List.getD
            (oTake b
                [(4 : Int), (3 : Int), (1 : Int), (2 : Int), (2 : Int), (2 : Int), (2 : Int), (5 : Int), (1 : Int),
                  (2 : Int), (1 : Int)]).fst
            (Int.toNat (0 : Int)) (0 : Int)),
      Init :=
        IntKind.wrap IntKind.u32
          (List.getD
            (oTake b
                [(4 : Int), (3 : Int), (1 : Int), (2 : Int), (2 : Int), (2 : Int), (2 : Int), (5 : Int), (1 : Int),
                  (2 : Int), (1 : Int)]).fst
            (Int.toNat (1 : Int)) (0 : Int)),
      Update :=
        {
          WinSize :=
            IntKind.wrap IntKind.i64
              (List.getD
                (oTake b
                    [(4 : Int), (3 : Int), (1 : Int), (2 : Int), (2 : Int), (2 : Int), (2 : Int), (5 : Int), (1 : Int),
                      (2 : Int), (1 : Int)]).fst
                (Int.toNat (2 : Int)) (0 : Int)),
          WinOffset :=
            IntKind.wrap IntKind.i64
              (List.getD
                (oTake b
                    [(4 : Int), (3 : Int), (1 : Int), (2 : Int), (2 : Int), (2 : Int), (2 : Int), (5 : Int), (1 : Int),
                      (2 : Int), (1 : Int)]).fst
                (Int.toNat (3 : Int)) (0 : Int)),
          Interval :=
            IntKind.wrap IntKind.i64
              (List.getD
                (oTake b
                    [(4 : Int), (3 : Int), (1 : Int), (2 : Int), (2 : Int), (2 : Int), (2 : Int), (5 : Int), (1 : Int),
                      (2 : Int), (1 : Int)]).fst
                (Int.toNat (4 : Int)) (0 : Int)),
          Latency :=
            IntKind.wrap IntKind.i64
              (List.getD
                (oTake b
                    [(4 : Int), (3 : Int), (1 : Int), (2 : Int), (2 : Int), (2 : Int), (2 : Int), (5 : Int), (1 : Int),
                      (2 : Int), (1 : Int)]).fst
                (Int.toNat (5 : Int)) (0 : Int)),
          Timeout :=
            IntKind.wrap IntKind.i64
              (List.getD
                (oTake b
                    [(4 : Int), (3 : Int), (1 : Int), (2 : Int), (2 : Int), (2 : Int), (2 : Int), (5 : Int), (1 : Int),
                      (2 : Int), (1 : Int)]).fst
                (Int.toNat (6 : Int)) (0 : Int)) },
      Map :=
        List.getD
          (oTake b
              [(4 : Int), (3 : Int), (1 : Int), (2 : Int), (2 : Int), (2 : Int), (2 : Int), (5 : Int), (1 : Int),
                (2 : Int), (1 : Int)]).fst
          (Int.toNat (7 : Int)) (0 : Int),
      Hop :=
        IntKind.wrap IntKind.i64
          (List.getD
            (oTake b
                [(4 : Int), (3 : Int), (1 : Int), (2 : Int), (2 : Int), (2 : Int), (2 : Int), (5 : Int), (1 : Int),
                  (2 : Int), (1 : Int)]).fst
            (Int.toNat (8 : Int)) (0 : Int)),
      PPM :=
        IntKind.wrap IntKind.i64
          (List.getD
            (oTake b
                [(4 : Int), (3 : Int), (1 : Int), (2 : Int), (2 : Int), (2 : Int), (2 : Int), (5 : Int), (1 : Int),
                  (2 : Int), (1 : Int)]).fst
            (Int.toNat (9 : Int)) (0 : Int)),
      Algorithm :=
        IntKind.wrap IntKind.i64
          (List.getD
            (oTake b
                [(4 : Int), (3 : Int), (1 : Int), (2 : Int), (2 : Int), (2 : Int), (2 : Int), (5 : Int), (1 : Int),
                  (2 : Int), (1 : Int)]).fst
            (Int.toNat (10 : Int)) (0 : Int)) } !=
  (0 : Int)) (((⟨((0 : Int)), ((0 : Int)), ⟨((0 : Int)), ((0 : Int)), ((0 : Int)), ((0 : Int)), ((0 : Int))⟩, ((0 : Int)), ((0 : Int)), ((0 : Int)), ((0 : Int))⟩ : ConnParams), cCheck
  {
    Access :=
      IntKind.wrap IntKind.u32
        (List.getD
          (oTake b
              [(4 : Int), (3 : Int), (1 : Int), (2 : Int), (2 : Int), (2 : Int), (2 : Int), (5 : Int), (1 : Int),
                (2 : Int), (1 : Int)]).fst
          (Int.toNat (0 : Int)) (0 : Int)),
    Init :=
      IntKind.wrap IntKind.u32
        (List.getD
          (oTake b
              [(4 : Int), (3 : Int), (1 : Int), (2 : Int), (2 : Int), (2 : Int), (2 : Int), (5 : Int), (1 : Int),
                (2 : Int), (1 : Int)]).fst
          (Int.toNat (1 : Int)) (0 : Int)),
    Update :=
      {
        WinSize :=
          IntKind.wrap IntKind.i64
            (List.getD
              (oTake b
                  [(4 : Int), (3 : Int), (1 : Int), (2 : Int), (2 : Int), (2 : Int), (2 : Int), (5 : Int), (1 : Int),
                    (2 : Int), (1 : Int)]).fst
              (Int.toNat (2 : Int)) (0 : Int)),
        WinOffset :=
          IntKind.wrap IntKind.i64
            (List.getD
              (oTake b
                  [(4 : Int), (3 : Int), (1 : Int), (2 : Int), (2 : Int), (2 : Int), (2 : Int), (5 : Int), (1 : Int),
                    (2 : Int), (1 : Int)]).fst
              (Int.toNat (3 : Int)) (0 : Int)),
        Interval :=
          IntKind.wrap IntKind.i64
            (List.getD
              (oTake b
                  [(4 : Int), (3 : Int), (1 : Int), (2 : Int), (2 : Int), (2 : Int), (2 : Int), (5 : Int), (1 : Int),
                    (2 : Int), (1 : Int)]).fst
              (Int.toNat (4 : Int)) (0 : Int)),
        Latency :=
          IntKind.wrap IntKind.i64
            (List.getD
              (oTake b
                  [(4 : Int), (3 : Int), (1 : Int), (2 : Int), (2 : Int), (2 : Int), (2 : Int), (5 : Int), (1 : Int),
                    (2 : Int), (1 : Int)]).fst
              (Int.toNat (5 : Int)) (0 : Int)),
        Timeout :=
          IntKind.wrap IntKind.i64
            (List.getD
              (oTake b
                  [(4 : Int), (3 : Int), (1 : Int), (2 : Int), (2 : Int), (2 : Int), (2 : Int), (5 : Int), (1 : Int),
                    (2 : Int), (1 : Int)]).fst
              (Int.toNat (6 : Int)) (0 : Int)) },
    Map :=
      List.getD
        (oTake b
            [(4 : Int), (3 : Int), (1 : Int), (2 : Int), (2 : Int), (2 : Int), (2 : Int), (5 : Int), (1 : Int),
              (2 : Int), (1 : Int)]).fst
        (Int.toNat (7 : Int)) (0 : Int),
    Hop :=
      IntKind.wrap IntKind.i64
        (List.getD
          (oTake b
              [(4 : Int), (3 : Int), (1 : Int), (2 : Int), (2 : Int), (2 : Int), (2 : Int), (5 : Int), (1 : Int),
                (2 : Int), (1 : Int)]).fst
          (Int.toNat (8 : Int)) (0 : Int)),
    PPM :=
      IntKind.wrap IntKind.i64
        (List.getD
          (oTake b
              [(4 : Int), (3 : Int), (1 : Int), (2 : Int), (2 : Int), (2 : Int), (2 : Int), (5 : Int), (1 : Int),
                (2 : Int), (1 : Int)]).fst
          (Int.toNat (9 : Int)) (0 : Int)),
    Algorithm :=
      IntKind.wrap IntKind.i64
        (List.getD
          (oTake b
              [(4 : Int), (3 : Int), (1 : Int), (2 : Int), (2 : Int), (2 : Int), (2 : Int), (5 : Int), (1 : Int),
                (2 : Int), (1 : Int)]).fst
          (Int.toNat (10 : Int)) (0 : Int)) })) (((⟨(IntKind.wrap IntKind.u32
  (List.getD
    (oTake b
        [(4 : Int), (3 : Int), (1 : Int), (2 : Int), (2 : Int), (2 : Int), (2 : Int), (5 : Int), (1 : Int), (2 : Int),
          (1 : Int)]).fst
    (Int.toNat (0 : Int)) (0 : Int))), (IntKind.wrap IntKind.u32
  (List.getD
    (oTake b
        [(4 : Int), (3 : Int), (1 : Int), (2 : Int), (2 : Int), (2 : Int), (2 : Int), (5 : Int), (1 : Int), (2 : Int),
          (1 : Int)]).fst
    (Int.toNat (1 : Int)) (0 : Int))), ⟨(IntKind.wrap IntKind.i64
  (List.getD
    (oTake b
        [(4 : Int), (3 : Int), (1 : Int), (2 : Int), (2 : Int), (2 : Int), (2 : Int), (5 : Int), (1 : Int), (2 : Int),
          (1 : Int)]).fst
    (Int.toNat (2 : Int)) (0 : Int))), (IntKind.wrap IntKind.i64
  (List.getD
    (oTake b
        [(4 : Int), (3 : Int), (1 : Int), (2 : Int), (2 : Int), (2 : Int), (2 : Int), (5 : Int), (1 : Int), (2 : Int),
          (1 : Int)]).fst
    (Int.toNat (3 : Int)) (0 : Int))), (IntKind.wrap IntKind.i64
  (List.getD
    (oTake b
        [(4 : Int), (3 : Int), (1 : Int), (2 : Int), (2 : Int), (2 : Int), (2 : Int), (5 : Int), (1 : Int), (2 : Int),
          (1 : Int)]).fst
    (Int.toNat (4 : Int)) (0 : Int))), (IntKind.wrap IntKind.i64
  (List.getD
    (oTake b
        [(4 : Int), (3 : Int), (1 : Int), (2 : Int), (2 : Int), (2 : Int), (2 : Int), (5 : Int), (1 : Int), (2 : Int),
          (1 : Int)]).fst
    (Int.toNat (5 : Int)) (0 : Int))), (IntKind.wrap IntKind.i64
  (List.getD
    (oTake b
        [(4 : Int), (3 : Int), (1 : Int), (2 : Int), (2 : Int), (2 : Int), (2 : Int), (5 : Int), (1 : Int), (2 : Int),
          (1 : Int)]).fst
    (Int.toNat (6 : Int)) (0 : Int)))⟩, (List.getD
  (oTake b
      [(4 : Int), (3 : Int), (1 : Int), (2 : Int), (2 : Int), (2 : Int), (2 : Int), (5 : Int), (1 : Int), (2 : Int),
        (1 : Int)]).fst
  (Int.toNat (7 : Int)) (0 : Int)), (IntKind.wrap IntKind.i64
  (List.getD
    (oTake b
        [(4 : Int), (3 : Int), (1 : Int), (2 : Int), (2 : Int), (2 : Int), (2 : Int), (5 : Int), (1 : Int), (2 : Int),
          (1 : Int)]).fst
    (Int.toNat (8 : Int)) (0 : Int))), (IntKind.wrap IntKind.i64
  (List.getD
    (oTake b
        [(4 : Int), (3 : Int), (1 : Int), (2 : Int), (2 : Int), (2 : Int), (2 : Int), (5 : Int), (1 : Int), (2 : Int),
          (1 : Int)]).fst
    (Int.toNat (9 : Int)) (0 : Int))), (IntKind.wrap IntKind.i64
  (List.getD
    (oTake b
        [(4 : Int), (3 : Int), (1 : Int), (2 : Int), (2 : Int), (2 : Int), (2 : Int), (5 : Int), (1 : Int), (2 : Int),
          (1 : Int)]).fst
    (Int.toNat (10 : Int)) (0 : Int)))⟩ : ConnParams), (0 : Int)))))
def cDecode.dec (cs : List (AV El)) : Option ((List Int)) := popS 5 cs fun a0 c0 => popE c0 a0
def cDecode.enc (x : (List Int)) : List (AV El) := [.sl 5 (x : List (El 5)) false]
theorem cDecode.dec_ok : ∀ cs x, cDecode.dec cs = some x → Imp (S := S) cs (cDecode.enc x) := by
  intro cs x h
  unfold cDecode.dec at h
  obtain ⟨a0, c0, h0, k0⟩ := popS_some (S := S) (t := 5) h
  obtain ⟨rfl, rfl⟩ := popE_some (S := S) h0
  exact (k0 _ (.refl _))
def cDecode.nf (b : List Int) (K : AV El → List (AObj El) → Prop) : Prop := Ob (List.length b ≤ (140737488355328 : Nat) ∧
  List.length
      [(4 : Int), (3 : Int), (1 : Int), (2 : Int), (2 : Int), (2 : Int), (2 : Int), (5 : Int), (1 : Int), (2 : Int),
        (1 : Int)] ≤
    (1099511627776 : Nat)) ∧ (cond ((oTake b
        [(4 : Int), (3 : Int), (1 : Int), (2 : Int), (2 : Int), (2 : Int), (2 : Int), (5 : Int), (1 : Int), (2 : Int),
          (1 : Int)]).snd.snd !=
  (0 : Int)) (K (.tup [.agg [.v (.int .u32 ((0 : Int))), .v (.int .u32 ((0 : Int))), .v (.int .i64 ((0 : Int))), .v (.int .i64 ((0 : Int))), .v (.int .i64 ((0 : Int))), .v (.int .i64 ((0 : Int))), .v (.int .i64 ((0 : Int))), .v (.int .u64 ((0 : Int))), .v (.int .i64 ((0 : Int))), .v (.int .i64 ((0 : Int))), .v (.int .i64 ((0 : Int)))], .v (.int .i64 ((oTake b
      [(4 : Int), (3 : Int), (1 : Int), (2 : Int), (2 : Int), (2 : Int), (2 : Int), (5 : Int), (1 : Int), (2 : Int),
        (1 : Int)]).snd.snd))]) [.cells [.v (.int .u32 ((0 : Int))), .v (.int .u32 ((0 : Int))), .v (.int .i64 ((0 : Int))), .v (.int .i64 ((0 : Int))), .v (.int .i64 ((0 : Int))), .v (.int .i64 ((0 : Int))), .v (.int .i64 ((0 : Int))), .v (.int .u64 ((0 : Int))), .v (.int .i64 ((0 : Int))), .v (.int .i64 ((0 : Int))), .v (.int .i64 ((0 : Int)))], .frozen 3 ([(4 : Int), (3 : Int), (1 : Int), (2 : Int), (2 : Int), (2 : Int), (2 : Int), (5 : Int), (1 : Int), (2 : Int),
  (1 : Int)]), .row 25 ((oTake b
    [(4 : Int), (3 : Int), (1 : Int), (2 : Int), (2 : Int), (2 : Int), (2 : Int), (5 : Int), (1 : Int), (2 : Int),
      (1 : Int)]).fst), .row 5 ((oTake b
      [(4 : Int), (3 : Int), (1 : Int), (2 : Int), (2 : Int), (2 : Int), (2 : Int), (5 : Int), (1 : Int), (2 : Int),
        (1 : Int)]).snd.fst)]) ((List.length
    (oTake b
          [(4 : Int), (3 : Int), (1 : Int), (2 : Int), (2 : Int), (2 : Int), (2 : Int), (5 : Int), (1 : Int), (2 : Int),
            (1 : Int)]).snd.fst ≤
  (9223372036854775807 : Nat)) → (cond (decide
  ((0 : Int) <
    (↑(List.length
          (oTake b
                [(4 : Int), (3 : Int), (1 : Int), (2 : Int), (2 : Int), (2 : Int), (2 : Int), (5 : Int), (1 : Int),
                  (2 : Int), (1 : Int)]).snd.fst) :
      Int))) (K (.tup [.agg [.v (.int .u32 ((0 : Int))), .v (.int .u32 ((0 : Int))), .v (.int .i64 ((0 : Int))), .v (.int .i64 ((0 : Int))), .v (.int .i64 ((0 : Int))), .v (.int .i64 ((0 : Int))), .v (.int .i64 ((0 : Int))), .v (.int .u64 ((0 : Int))), .v (.int .i64 ((0 : Int))), .v (.int .i64 ((0 : Int))), .v (.int .i64 ((0 : Int)))], .v (.int .i64 ((2 : Int)))]) [.cells [.v (.int .u32 ((0 : Int))), .v (.int .u32 ((0 : Int))), .v (.int .i64 ((0 : Int))), .v (.int .i64 ((0 : Int))), .v (.int .i64 ((0 : Int))), .v (.int .i64 ((0 : Int))), .v (.int .i64 ((0 : Int))), .v (.int .u64 ((0 : Int))), .v (.int .i64 ((0 : Int))), .v (.int .i64 ((0 : Int))), .v (.int .i64 ((0 : Int)))], .frozen 3 ([(4 : Int), (3 : Int), (1 : Int), (2 : Int), (2 : Int), (2 : Int), (2 : Int), (5 : Int), (1 : Int), (2 : Int),
  (1 : Int)]), .row 25 ((oTake b
    [(4 : Int), (3 : Int), (1 : Int), (2 : Int), (2 : Int), (2 : Int), (2 : Int), (5 : Int), (1 : Int), (2 : Int),
      (1 : Int)]).fst), .row 5 ((oTake b
      [(4 : Int), (3 : Int), (1 : Int), (2 : Int), (2 : Int), (2 : Int), (2 : Int), (5 : Int), (1 : Int), (2 : Int),
        (1 : Int)]).snd.fst)]) (Ob ((0 : Int) ≤ (0 : Int) ∧
  (0 : Int) <
    (↑(List.length
          (oTake b
              [(4 : Int), (3 : Int), (1 : Int), (2 : Int), (2 : Int), (2 : Int), (2 : Int), (5 : Int), (1 : Int),
                (2 : Int), (1 : Int)]).fst) :
      Int)) ∧ (Ob (Int.toNat (0 : Int) <
  List.length
    (oTake b
        [(4 : Int), (3 : Int), (1 : Int), (2 : Int), (2 : Int), (2 : Int), (2 : Int), (5 : Int), (1 : Int), (2 : Int),
          (1 : Int)]).fst) ∧ (Ob ((0 : Int) ≤ (1 : Int) ∧
  (1 : Int) <
    (↑(List.length
          (oTake b
              [(4 : Int), (3 : Int), (1 : Int), (2 : Int), (2 : Int), (2 : Int), (2 : Int), (5 : Int), (1 : Int),
                (2 : Int), (1 : Int)]).fst) :
      Int)) ∧ (Ob (Int.toNat (1 : Int) <
  List.length
    (oTake b
        [(4 : Int), (3 : Int), (1 : Int), (2 : Int), (2 : Int), (2 : Int), (2 : Int), (5 : Int), (1 : Int), (2 : Int),
          (1 : Int)]).fst) ∧ (Ob ((0 : Int) ≤ (2 : Int) ∧
  (2 : Int) <
    (↑(List.length
          (oTake b
              [(4 : Int), (3 : Int), (1 : Int), (2 : Int), (2 : Int), (2 : Int), (2 : Int), (5 : Int), (1 : Int),
                (2 : Int), (1 : Int)]).fst) :
      Int)) ∧ (Ob (Int.toNat (2 : Int) <
  List.length
    (oTake b
        [(4 : Int), (3 : Int), (1 : Int), (2 : Int), (2 : Int), (2 : Int), (2 : Int), (5 : Int), (1 : Int), (2 : Int),
          (1 : Int)]).fst) ∧ (Ob ((0 : Int) ≤ (3 : Int) ∧
  (3 : Int) <
    (↑(List.length
          (oTake b
              [(4 : Int), (3 : Int), (1 : Int), (2 : Int), (2 : Int), (2 : Int), (2 : Int), (5 : Int), (1 : Int),
                (2 : Int), (1 : Int)]).fst) :
      Int)) ∧ (Ob (Int.toNat (3 : Int) <
  List.length
    (oTake b
        [(4 : Int), (3 : Int), (1 : Int), (2 : Int), (2 : Int), (2 : Int), (2 : Int), (5 : Int), (1 : Int), (2 : Int),
          (1 : Int)]).fst) ∧ (Ob ((0 : Int) ≤ (4 : Int) ∧
  (4 : Int) <
    (↑(List.length
          (oTake b
              [(4 : Int), (3 : Int), (1 : Int), (2 : Int), (2 : Int), (2 : Int), (2 : Int), (5 : Int), (1 : Int),
                (2 : Int), (1 : Int)]).fst) :
      Int)) ∧ (Ob (Int.toNat (4 : Int) <
  List.length
    (oTake b
        [(4 : Int), (3 : Int), (1 : Int), (2 : Int), (2 : Int), (2 : Int), (2 : Int), (5 : Int), (1 : Int), (2 : Int),
          (1 : Int)]).fst) ∧ (Ob ((0 : Int) ≤ (5 : Int) ∧
  (5 : Int) <
    (↑(List.length
          (oTake b
              [(4 : Int), (3 : Int), (1 : Int), (2 : Int), (2 : Int), (2 : Int), (2 : Int), (5 : Int), (1 : Int),
                (2 : Int), (1 : Int)]).fst) :
      Int)) ∧ (Ob (Int.toNat (5 : Int) <
  List.length
    (oTake b
        [(4 : Int), (3 : Int), (1 : Int), (2 : Int), (2 : Int), (2 : Int), (2 : Int), (5 : Int), (1 : Int), (2 : Int),
          (1 : Int)]).fst) ∧ (Ob ((0 : Int) ≤ (6 : Int) ∧
  (6 : Int) <
    (↑(List.length
          (oTake b
              [(4 : Int), (3 : Int), (1 : Int), (2 : Int), (2 : Int), (2 : Int), (2 : Int), (5 : Int), (1 : Int),
                (2 : Int), (1 : Int)]).fst) :
      Int)) ∧ (Ob (Int.toNat (6 : Int) <
  List.length
    (oTake b
        [(4 : Int), (3 : Int), (1 : Int), (2 : Int), (2 : Int), (2 : Int), (2 : Int), (5 : Int), (1 : Int), (2 : Int),
          (1 : Int)]).fst) ∧ (Ob ((0 : Int) ≤ (7 : Int) ∧
  (7 : Int) <
    (↑(List.length
          (oTake b
              [(4 : Int), (3 : Int), (1 : Int), (2 : Int), (2 : Int), (2 : Int), (2 : Int), (5 : Int), (1 : Int),
                (2 : Int), (1 : Int)]).fst) :
      Int)) ∧ (Ob (Int.toNat (7 : Int) <
  List.length
    (oTake b
        [(4 : Int), (3 : Int), (1 : Int), (2 : Int), (2 : Int), (2 : Int), (2 : Int), (5 : Int), (1 : Int), (2 : Int),
          (1 : Int)]).fst) ∧ (Ob ((0 : Int) ≤ (8 : Int) ∧
  (8 : Int) <
    (↑(List.length
          (oTake b
              [(4 : Int), (3 : Int), (1 : Int), (2 : Int), (2 : Int), (2 : Int), (2 : Int), (5 : Int), (1 : Int),
                (2 : Int), (1 : Int)]).fst) :
      Int)) ∧ (Ob (Int.toNat (8 : Int) <
  List.length
    (oTake b
        [(4 : Int), (3 : Int), (1 : Int), (2 : Int), (2 : Int), (2 : Int), (2 : Int), (5 : Int), (1 : Int), (2 : Int),
          (1 : Int)]).fst) ∧ (Ob ((0 : Int) ≤ (9 : Int) ∧
  (9 : Int) <
    (↑(List.length
          (oTake b
              [(4 : Int), (3 : Int), (1 : Int), (2 : Int), (2 : Int), (2 : Int), (2 : Int), (5 : Int), (1 : Int),
                (2 : Int), (1 : Int)]).fst) :
      Int)) ∧ (Ob (Int.toNat (9 : Int) <
  List.length
    (oTake b
        [(4 : Int), (3 : Int), (1 : Int), (2 : Int), (2 : Int), (2 : Int), (2 : Int), (5 : Int), (1 : Int), (2 : Int),
          (1 : Int)]).fst) ∧ (Ob ((0 : Int) ≤ (10 : Int) ∧
  (10 : Int) <
    (↑(List.length
          (oTake b
              [(4 : Int), (3 : Int), (1 : Int), (2 : Int), (2 : Int), (2 : Int), (2 : Int), (5 : Int), (1 : Int),
                (2 : Int), (1 : Int)]).fst) :
      Int)) ∧ (Ob (Int.toNat (10 : Int) <
  List.length
    (oTake b
        [(4 : Int), (3 : Int), (1 : Int), (2 : Int), (2 : Int), (2 : Int), (2 : Int), (5 : Int), (1 : Int), (2 : Int),
          (1 : Int)]).fst) ∧ (cond (cCheck
    {
      Access :=
        IntKind.wrap IntKind.u32
          (List.getD
            (oTake b
                [(4 : Int), (3 : Int), (1 : Int), (2 : Int), (2 : Int), (2 : Int), (2 : Int), (5 : Int), (1 : Int),
                  (2 : Int), (1 : Int)]).fst
            (Int.toNat (0 : Int)) (0 : Int)),
      Init :=
        IntKind.wrap IntKind.u32
          (List.getD
            (oTake b
                [(4 : Int), (3 : Int), (1 : Int), (2 : Int), (2 : Int), (2 : Int), (2 : Int), (5 : Int), (1 : Int),
                  (2 : Int), (1 : Int)]).fst
            (Int.toNat (1 : Int)) (0 : Int)),
      Update :=
        {
          WinSize :=
            IntKind.wrap IntKind.i64
              (List.getD
                (oTake b
                    [(4 : Int), (3 : Int), (1 : Int), (2 : Int), (2 : Int), (2 : Int), (2 : Int), (5 : Int), (1 : Int),
                      (2 : Int), (1 : Int)]).fst
                (Int.toNat (2 : Int)) (0 : Int)),
          WinOffset :=
            IntKind.wrap IntKind.i64
              (List.getD
                (oTake b
                    [(4 : Int), (3 : Int), (1 : Int), (2 : Int), (2 : Int), (2 : Int), (2 : Int), (5 : Int), (1 : Int),
                      (2 : Int), (1 : Int)]).fst
                (Int.toNat (3 : Int)) (0 : Int)),
          Interval :=
            IntKind.wrap IntKind.i64
              (List.getD
                (oTake b
                    [(4 : Int), (3 : Int), (1 : Int), (2 : Int), (2 : Int), (2 : Int), (2 : Int), (5 : Int), (1 : Int),
                      (2 : Int), (1 : Int)]).fst
                (Int.toNat (4 : Int)) (0 : Int)),
          Latency :=
            IntKind.wrap IntKind.i64
              (List.getD
                (oTake b
                    [(4 : Int), (3 : Int), (1 : Int), (2 : Int), (2 : Int), (2 : Int), (2 : Int), (5 : Int), (1 : Int),
                      (2 : Int), (1 : Int)]).fst
                (Int.toNat (5 : Int)) (0 : Int)),
          Timeout :=
            IntKind.wrap IntKind.i64
              (List.getD
                (oTake b
                    [(4 : Int), (3 : Int), (1 : Int), (2 : Int), (2 : Int), (2 : Int), (2 : Int), (5 : Int), (1 : Int),
                      (2 : Int), (1 : Int)]).fst
                (Int.toNat (6 : Int)) (0 : Int)) },
      Map :=
        List.getD
          (oTake b
              [(4 : Int), (3 : Int), (1 : Int), (2 : Int), (2 : Int), (2 : Int), (2 : Int), (5 : Int), (1 : Int),
                (2 : Int), (1 : Int)]).fst
          (Int.toNat (7 : Int)) (0 : Int),
      Hop :=
        IntKind.wrap IntKind.i64
          (List.getD
            (oTake b
                [(4 : Int), (3 : Int), (1 : Int), (2 : Int), (2 : Int), (2 : Int), (2 : Int), (5 : Int), (1 : Int),
                  (2 : Int), (1 : Int)]).fst
            (Int.toNat (8 : Int)) (0 : Int)),
      PPM :=
        IntKind.wrap IntKind.i64
          (List.getD
            (oTake b
                [(4 : Int), (3 : Int), (1 : Int), (2 : Int), (2 : Int), (2 : Int), (2 : Int), (5 : Int), (1 : Int),
                  (2 : Int), (1 : Int)]).fst
            (Int.toNat (9 : Int)) (0 : Int)),
      Algorithm :=
        IntKind.wrap IntKind.i64
          (List.getD
            (oTake b
                [(4 : Int), (3 : Int), (1 : Int), (2 : Int), (2 : Int), (2 : Int), (2 : Int), (5 : Int), (1 : Int),
                  (2 : Int), (1 : Int)]).fst
            (Int.toNat (10 : Int)) (0 : Int)) } !=
  (0 : Int)) (K (.tup [.agg [.v (.int .u32 ((0 : Int))), .v (.int .u32 ((0 : Int))), .v (.int .i64 ((0 : Int))), .v (.int .i64 ((0 : Int))), .v (.int .i64 ((0 : Int))), .v (.int .i64 ((0 : Int))), .v (.int .i64 ((0 : Int))), .v (.int .u64 ((0 : Int))), .v (.int .i64 ((0 : Int))), .v (.int .i64 ((0 : Int))), .v (.int .i64 ((0 : Int)))], .v (.int .i64 (cCheck
  {
    Access :=
      IntKind.wrap IntKind.u32
        (List.getD
          (oTake b
              [(4 : Int), (3 : Int), (1 : Int), (2 : Int), (2 : Int), (2 : Int), (2 : Int), (5 : Int), (1 : Int),
                (2 : Int), (1 : Int)]).fst
          (Int.toNat (0 : Int)) (0 : Int)),
    Init :=
      IntKind.wrap IntKind.u32
        (List.getD
          (oTake b
              [(4 : Int), (3 : Int), (1 : Int), (2 : Int), (2 : Int), (2 : Int), (2 : Int), (5 : Int), (1 : Int),
                (2 : Int), (1 : Int)]).fst
          (Int.toNat (1 : Int)) (0 : Int)),
    Update :=
      {
        WinSize :=
          IntKind.wrap IntKind.i64
            (List.getD
              (oTake b
                  [(4 : Int), (3 : Int), (1 : Int), (2 : Int), (2 : Int), (2 : Int), (2 : Int), (5 : Int), (1 : Int),
                    (2 : Int), (1 : Int)]).fst
              (Int.toNat (2 : Int)) (0 : Int)),
        WinOffset :=
          IntKind.wrap IntKind.i64
            (List.getD
              (oTake b
                  [(4 : Int), (3 : Int), (1 : Int), (2 : Int), (2 : Int), (2 : Int), (2 : Int), (5 : Int), (1 : Int),
                    (2 : Int), (1 : Int)]).fst
              (Int.toNat (3 : Int)) (0 : Int)),
        Interval :=
          IntKind.wrap IntKind.i64
            (List.getD
              (oTake b
                  [(4 : Int), (3 : Int), (1 : Int), (2 : Int), (2 : Int), (2 : Int), (2 : Int), (5 : Int), (1 : Int),
                    (2 : Int), (1 : Int)]).fst
              (Int.toNat (4 : Int)) (0 : Int)),
        Latency :=
          IntKind.wrap IntKind.i64
            (List.getD
              (oTake b
                  [(4 : Int), (3 : Int), (1 : Int), (2 : Int), (2 : Int), (2 : Int), (2 : Int), (5 : Int), (1 : Int),
                    (2 : Int), (1 : Int)]).fst
              (Int.toNat (5 : Int)) (0 : Int)),
        Timeout :=
          IntKind.wrap IntKind.i64
            (List.getD
              (oTake b
                  [(4 : Int), (3 : Int), (1 : Int), (2 : Int), (2 : Int), (2 : Int), (2 : Int), (5 : Int), (1 : Int),
                    (2 : Int), (1 : Int)]).fst
              (Int.toNat (6 : Int)) (0 : Int)) },
    Map :=
      List.getD
        (oTake b
            [(4 : Int), (3 : Int), (1 : Int), (2 : Int), (2 : Int), (2 : Int), (2 : Int), (5 : Int), (1 : Int),
              (2 : Int), (1 : Int)]).fst
        (Int.toNat (7 : Int)) (0 : Int),
    Hop :=
      IntKind.wrap IntKind.i64
        (List.getD
          (oTake b
              [(4 : Int), (3 : Int), (1 : Int), (2 : Int), (2 : Int), (2 : Int), (2 : Int), (5 : Int), (1 : Int),
                (2 : Int), (1 : Int)]).fst
          (Int.toNat (8 : Int)) (0 : Int)),
    PPM :=
      IntKind.wrap IntKind.i64
        (List.getD
          (oTake b
              [(4 : Int), (3 : Int), (1 : Int), (2 : Int), (2 : Int), (2 : Int), (2 : Int), (5 : Int), (1 : Int),
                (2 : Int), (1 : Int)]).fst
          (Int.toNat (9 : Int)) (0 : Int)),
    Algorithm :=
      IntKind.wrap IntKind.i64
        (List.getD
          (oTake b
              [(4 : Int), (3 : Int), (1 : Int), (2 : Int), (2 : Int), (2 : Int), (2 : Int), (5 : Int), (1 : Int),
                (2 : Int), (1 : Int)]).fst
          (Int.toNat (10 : Int)) (0 : Int)) }))]) [.cells [.v (.int .u32 ((0 : Int))), .v (.int .u32 ((0 : Int))), .v (.int .i64 ((0 : Int))), .v (.int .i64 ((0 : Int))), .v (.int .i64 ((0 : Int))), .v (.int .i64 ((0 : Int))), .v (.int .i64 ((0 : Int))), .v (.int .u64 ((0 : Int))), .v (.int .i64 ((0 : Int))), .v (.int .i64 ((0 : Int))), .v (.int .i64 ((0 : Int)))], .frozen 3 ([(4 : Int), (3 : Int), (1 : Int), (2 : Int), (2 : Int), (2 : Int), (2 : Int), (5 : Int), (1 : Int), (2 : Int),
  (1 : Int)]), .row 25 ((oTake b
    [(4 : Int), (3 : Int), (1 : Int), (2 : Int), (2 : Int), (2 : Int), (2 : Int), (5 : Int), (1 : Int), (2 : Int),
      (1 : Int)]).fst), .row 5 ((oTake b
      [(4 : Int), (3 : Int), (1 : Int), (2 : Int), (2 : Int), (2 : Int), (2 : Int), (5 : Int), (1 : Int), (2 : Int),
        (1 : Int)]).snd.fst), .cells [.v (.int .u32 (IntKind.wrap IntKind.u32
  (List.getD
    (oTake b
        [(4 : Int), (3 : Int), (1 : Int), (2 : Int), (2 : Int), (2 : Int), (2 : Int), (5 : Int), (1 : Int), (2 : Int),
          (1 : Int)]).fst
    (Int.toNat (0 : Int)) (0 : Int)))), .v (.int .u32 (IntKind.wrap IntKind.u32
  (List.getD
    (oTake b
        [(4 : Int), (3 : Int), (1 : Int), (2 : Int), (2 : Int), (2 : Int), (2 : Int), (5 : Int), (1 : Int), (2 : Int),
          (1 : Int)]).fst
    (Int.toNat (1 : Int)) (0 : Int)))), .v (.int .i64 (IntKind.wrap IntKind.i64
  (List.getD
    (oTake b
        [(4 : Int), (3 : Int), (1 : Int), (2 : Int), (2 : Int), (2 : Int), (2 : Int), (5 : Int), (1 : Int), (2 : Int),
          (1 : Int)]).fst
    (Int.toNat (2 : Int)) (0 : Int)))), .v (.int .i64 (IntKind.wrap IntKind.i64
  (List.getD
    (oTake b
        [(4 : Int), (3 : Int), (1 : Int), (2 : Int), (2 : Int), (2 : Int), (2 : Int), (5 : Int), (1 : Int), (2 : Int),
          (1 : Int)]).fst
    (Int.toNat (3 : Int)) (0 : Int)))), .v (.int .i64 (IntKind.wrap IntKind.i64
  (List.getD
    (oTake b
        [(4 : Int), (3 : Int), (1 : Int), (2 : Int), (2 : Int), (2 : Int), (2 : Int), (5 : Int), (1 : Int), (2 : Int),
          (1 : Int)]).fst
    (Int.toNat (4 : Int)) (0 : Int)))), .v (.int .i64 (IntKind.wrap IntKind.i64
  (List.getD
    (oTake b
        [(4 : Int), (3 : Int), (1 : Int), (2 : Int), (2 : Int), (2 : Int), (2 : Int), (5 : Int), (1 : Int), (2 : Int),
          (1 : Int)]).fst
    (Int.toNat (5 : Int)) (0 : Int)))), .v (.int .i64 (IntKind.wrap IntKind.i64
  (List.getD
    (oTake b
        [(4 : Int), (3 : Int), (1 : Int), (2 : Int), (2 : Int), (2 : Int), (2 : Int), (5 : Int), (1 : Int), (2 : Int),
          (1 : Int)]).fst
    (Int.toNat (6 : Int)) (0 : Int)))), .v (.int .u64 (List.getD
  (oTake b
      [(4 : Int), (3 : Int), (1 : Int), (2 : Int), (2 : Int), (2 : Int), (2 : Int), (5 : Int), (1 : Int), (2 : Int),
        (1 : Int)]).fst
  (Int.toNat (7 : Int)) (0 : Int))), .v (.int .i64 (IntKind.wrap IntKind.i64
  (List.getD
    (oTake b
        [(4 : Int), (3 : Int), (1 : Int), (2 : Int), (2 : Int), (2 : Int), (2 : Int), (5 : Int), (1 : Int), (2 : Int),
          (1 : Int)]).fst
    (Int.toNat (8 : Int)) (0 : Int)))), .v (.int .i64 (IntKind.wrap IntKind.i64
  (List.getD
    (oTake b
        [(4 : Int), (3 : Int), (1 : Int), (2 : Int), (2 : Int), (2 : Int), (2 : Int), (5 : Int), (1 : Int), (2 : Int),
          (1 : Int)]).fst
    (Int.toNat (9 : Int)) (0 : Int)))), .v (.int .i64 (IntKind.wrap IntKind.i64
  (List.getD
    (oTake b
        [(4 : Int), (3 : Int), (1 : Int), (2 : Int), (2 : Int), (2 : Int), (2 : Int), (5 : Int), (1 : Int), (2 : Int),
          (1 : Int)]).fst
    (Int.toNat (10 : Int)) (0 : Int))))]]) (K (.tup [.agg [.v (.int .u32 (IntKind.wrap IntKind.u32
  (List.getD
    (oTake b
        [(4 : Int), (3 : Int), (1 : Int), (2 : Int), (2 : Int), (2 : Int), (2 : Int), (5 : Int), (1 : Int), (2 : Int),
          (1 : Int)]).fst
    (Int.toNat (0 : Int)) (0 : Int)))), .v (.int .u32 (IntKind.wrap IntKind.u32
  (List.getD
    (oTake b
        [(4 : Int), (3 : Int), (1 : Int), (2 : Int), (2 : Int), (2 : Int), (2 : Int), (5 : Int), (1 : Int), (2 : Int),
          (1 : Int)]).fst
    (Int.toNat (1 : Int)) (0 : Int)))), .v (.int .i64 (IntKind.wrap IntKind.i64
  (List.getD
    (oTake b
        [(4 : Int), (3 : Int), (1 : Int), (2 : Int), (2 : Int), (2 : Int), (2 : Int), (5 : Int), (1 : Int), (2 : Int),
          (1 : Int)]).fst
    (Int.toNat (2 : Int)) (0 : Int)))), .v (.int .i64 (IntKind.wrap IntKind.i64
  (List.getD
    (oTake b
        [(4 : Int), (3 : Int), (1 : Int), (2 : Int), (2 : Int), (2 : Int), (2 : Int), (5 : Int), (1 : Int), (2 : Int),
          (1 : Int)]).fst
    (Int.toNat (3 : Int)) (0 : Int)))), .v (.int .i64 (IntKind.wrap IntKind.i64
  (List.getD
    (oTake b
        [(4 : Int), (3 : Int), (1 : Int), (2 : Int), (2 : Int), (2 : Int), (2 : Int), (5 : Int), (1 : Int), (2 : Int),
          (1 : Int)]).fst
    (Int.toNat (4 : Int)) (0 : Int)))), .v (.int .i64 (IntKind.wrap IntKind.i64
  (List.getD
    (oTake b
        [(4 : Int), (3 : Int), (1 : Int), (2 : Int), (2 : Int), (2 : Int), (2 : Int), (5 : Int), (1 : Int), (2 : Int),
          (1 : Int)]).fst
    (Int.toNat (5 : Int)) (0 : Int)))), .v (.int .i64 (IntKind.wrap IntKind.i64
  (List.getD
    (oTake b
        [(4 : Int), (3 : Int), (1 : Int), (2 : Int), (2 : Int), (2 : Int), (2 : Int), (5 : Int), (1 : Int), (2 : Int),
          (1 : Int)]).fst
    (Int.toNat (6 : Int)) (0 : Int)))), .v (.int .u64 (List.getD
  (oTake b
      [(4 : Int), (3 : Int), (1 : Int), (2 : Int), (2 : Int), (2 : Int), (2 : Int), (5 : Int), (1 : Int), (2 : Int),
        (1 : Int)]).fst
  (Int.toNat (7 : Int)) (0 : Int))), .v (.int .i64 (IntKind.wrap IntKind.i64
  (List.getD
    (oTake b
        [(4 : Int), (3 : Int), (1 : Int), (2 : Int), (2 : Int), (2 : Int), (2 : Int), (5 : Int), (1 : Int), (2 : Int),
          (1 : Int)]).fst
    (Int.toNat (8 : Int)) (0 : Int)))), .v (.int .i64 (IntKind.wrap IntKind.i64
  (List.getD
    (oTake b
        [(4 : Int), (3 : Int), (1 : Int), (2 : Int), (2 : Int), (2 : Int), (2 : Int), (5 : Int), (1 : Int), (2 : Int),
          (1 : Int)]).fst
    (Int.toNat (9 : Int)) (0 : Int)))), .v (.int .i64 (IntKind.wrap IntKind.i64
  (List.getD
    (oTake b
        [(4 : Int), (3 : Int), (1 : Int), (2 : Int), (2 : Int), (2 : Int), (2 : Int), (5 : Int), (1 : Int), (2 : Int),
          (1 : Int)]).fst
    (Int.toNat (10 : Int)) (0 : Int))))], .v (.int .i64 ((0 : Int)))]) [.cells [.v (.int .u32 (IntKind.wrap IntKind.u32
  (List.getD
    (oTake b
        [(4 : Int), (3 : Int), (1 : Int), (2 : Int), (2 : Int), (2 : Int), (2 : Int), (5 : Int), (1 : Int), (2 : Int),
          (1 : Int)]).fst
    (Int.toNat (0 : Int)) (0 : Int)))), .v (.int .u32 (IntKind.wrap IntKind.u32
  (List.getD
    (oTake b
        [(4 : Int), (3 : Int), (1 : Int), (2 : Int), (2 : Int), (2 : Int), (2 : Int), (5 : Int), (1 : Int), (2 : Int),
          (1 : Int)]).fst
    (Int.toNat (1 : Int)) (0 : Int)))), .v (.int .i64 (IntKind.wrap IntKind.i64
  (List.getD
    (oTake b
        [(4 : Int), (3 : Int), (1 : Int), (2 : Int), (2 : Int), (2 : Int), (2 : Int), (5 : Int), (1 : Int), (2 : Int),
          (1 : Int)]).fst
    (Int.toNat (2 : Int)) (0 : Int)))), .v (.int .i64 (IntKind.wrap IntKind.i64
  (List.getD
    (oTake b
        [(4 : Int), (3 : Int), (1 : Int), (2 : Int), (2 : Int), (2 : Int), (2 : Int), (5 : Int), (1 : Int), (2 : Int),
          (1 : Int)]).fst
    (Int.toNat (3 : Int)) (0 : Int)))), .v (.int .i64 (IntKind.wrap IntKind.i64
  (List.getD
    (oTake b
        [(4 : Int), (3 : Int), (1 : Int), (2 : Int), (2 : Int), (2 : Int), (2 : Int), (5 : Int), (1 : Int), (2 : Int),
          (1 : Int)]).fst
    (Int.toNat (4 : Int)) (0 : Int)))), .v (.int .i64 (IntKind.wrap IntKind.i64
  (List.getD
    (oTake b
        [(4 : Int), (3 : Int), (1 : Int), (2 : Int), (2 : Int), (2 : Int), (2 : Int), (5 : Int), (1 : Int), (2 : Int),
          (1 : Int)]).fst
    (Int.toNat (5 : Int)) (0 : Int)))), .v (.int .i64 (IntKind.wrap IntKind.i64
  (List.getD
    (oTake b
        [(4 : Int), (3 : Int), (1 : Int), (2 : Int), (2 : Int), (2 : Int), (2 : Int), (5 : Int), (1 : Int), (2 : Int),
          (1 : Int)]).fst
    (Int.toNat (6 : Int)) (0 : Int)))), .v (.int .u64 (List.getD
  (oTake b
      [(4 : Int), (3 : Int), (1 : Int), (2 : Int), (2 : Int), (2 : Int), (2 : Int), (5 : Int), (1 : Int), (2 : Int),
        (1 : Int)]).fst
  (Int.toNat (7 : Int)) (0 : Int))), .v (.int .i64 (IntKind.wrap IntKind.i64
  (List.getD
    (oTake b
        [(4 : Int), (3 : Int), (1 : Int), (2 : Int), (2 : Int), (2 : Int), (2 : Int), (5 : Int), (1 : Int), (2 : Int),
          (1 : Int)]).fst
    (Int.toNat (8 : Int)) (0 : Int)))), .v (.int .i64 (IntKind.wrap IntKind.i64
  (List.getD
    (oTake b
        [(4 : Int), (3 : Int), (1 : Int), (2 : Int), (2 : Int), (2 : Int), (2 : Int), (5 : Int), (1 : Int), (2 : Int),
          (1 : Int)]).fst
    (Int.toNat (9 : Int)) (0 : Int)))), .v (.int .i64 (IntKind.wrap IntKind.i64
  (List.getD
    (oTake b
        [(4 : Int), (3 : Int), (1 : Int), (2 : Int), (2 : Int), (2 : Int), (2 : Int), (5 : Int), (1 : Int), (2 : Int),
          (1 : Int)]).fst
    (Int.toNat (10 : Int)) (0 : Int))))], .frozen 3 ([(4 : Int), (3 : Int), (1 : Int), (2 : Int), (2 : Int), (2 : Int), (2 : Int), (5 : Int), (1 : Int), (2 : Int),
  (1 : Int)]), .row 25 ((oTake b
    [(4 : Int), (3 : Int), (1 : Int), (2 : Int), (2 : Int), (2 : Int), (2 : Int), (5 : Int), (1 : Int), (2 : Int),
      (1 : Int)]).fst), .row 5 ((oTake b
      [(4 : Int), (3 : Int), (1 : Int), (2 : Int), (2 : Int), (2 : Int), (2 : Int), (5 : Int), (1 : Int), (2 : Int),
        (1 : Int)]).snd.fst), .cells [.v (.int .u32 (IntKind.wrap IntKind.u32
  (List.getD
    (oTake b
        [(4 : Int), (3 : Int), (1 : Int), (2 : Int), (2 : Int), (2 : Int), (2 : Int), (5 : Int), (1 : Int), (2 : Int),
          (1 : Int)]).fst
    (Int.toNat (0 : Int)) (0 : Int)))), .v (.int .u32 (IntKind.wrap IntKind.u32
  (List.getD
    (oTake b
        [(4 : Int), (3 : Int), (1 : Int), (2 : Int), (2 : Int), (2 : Int), (2 : Int), (5 : Int), (1 : Int), (2 : Int),
          (1 : Int)]).fst
    (Int.toNat (1 : Int)) (0 : Int)))), .v (.int .i64 (IntKind.wrap IntKind.i64
  (List.getD
    (oTake b
        [(4 : Int), (3 : Int), (1 : Int), (2 : Int), (2 : Int), (2 : Int), (2 : Int), (5 : Int), (1 : Int), (2 : Int),
          (1 : Int)]).fst
    (Int.toNat (2 : Int)) (0 : Int)))), .v (.int .i64 (IntKind.wrap IntKind.i64
  (List.getD
    (oTake b
        [(4 : Int), (3 : Int), (1 : Int), (2 : Int), (2 : Int), (2 : Int), (2 : Int), (5 : Int), (1 : Int), (2 : Int),
          (1 : Int)]).fst
    (Int.toNat (3 : Int)) (0 : Int)))), .v (.int .i64 (IntKind.wrap IntKind.i64
  (List.getD
    (oTake b
        [(4 : Int), (3 : Int), (1 : Int), (2 : Int), (2 : Int), (2 : Int), (2 : Int), (5 : Int), (1 : Int), (2 : Int),
          (1 : Int)]).fst
    (Int.toNat (4 : Int)) (0 : Int)))), .v (.int .i64 (IntKind.wrap IntKind.i64
  (List.getD
    (oTake b
        [(4 : Int), (3 : Int), (1 : Int), (2 : Int), (2 : Int), (2 : Int), (2 : Int), (5 : Int), (1 : Int), (2 : Int),
          (1 : Int)]).fst
    (Int.toNat (5 : Int)) (0 : Int)))), .v (.int .i64 (IntKind.wrap IntKind.i64
  (List.getD
    (oTake b
        [(4 : Int), (3 : Int), (1 : Int), (2 : Int), (2 : Int), (2 : Int), (2 : Int), (5 : Int), (1 : Int), (2 : Int),
          (1 : Int)]).fst
    (Int.toNat (6 : Int)) (0 : Int)))), .v (.int .u64 (List.getD
  (oTake b
      [(4 : Int), (3 : Int), (1 : Int), (2 : Int), (2 : Int), (2 : Int), (2 : Int), (5 : Int), (1 : Int), (2 : Int),
        (1 : Int)]).fst
  (Int.toNat (7 : Int)) (0 : Int))), .v (.int .i64 (IntKind.wrap IntKind.i64
  (List.getD
    (oTake b
        [(4 : Int), (3 : Int), (1 : Int), (2 : Int), (2 : Int), (2 : Int), (2 : Int), (5 : Int), (1 : Int), (2 : Int),
          (1 : Int)]).fst
    (Int.toNat (8 : Int)) (0 : Int)))), .v (.int .i64 (IntKind.wrap IntKind.i64
  (List.getD
    (oTake b
        [(4 : Int), (3 : Int), (1 : Int), (2 : Int), (2 : Int), (2 : Int), (2 : Int), (5 : Int), (1 : Int), (2 : Int),
          (1 : Int)]).fst
    (Int.toNat (9 : Int)) (0 : Int)))), .v (.int .i64 (IntKind.wrap IntKind.i64
  (List.getD
    (oTake b
        [(4 : Int), (3 : Int), (1 : Int), (2 : Int), (2 : Int), (2 : Int), (2 : Int), (5 : Int), (1 : Int), (2 : Int),
          (1 : Int)]).fst
    (Int.toNat (10 : Int)) (0 : Int))))]])))))))))))))))))))))))))))
theorem cDecode.nf_ok (b : List Int) (K : AV El → List (AObj El) → Prop) : evFun (mkCx Try.prog S tab_r2Take 0) 4 18 [.sl 5 (b : List (El 5)) false] [] K = cDecode.nf b K := by kernel_rfl
theorem cDecode.key (b : List Int) (hp : b.length ≤ 140737488355328) (v : ConnParams × Int) (hv : v = cDecode b) : cDecode.nf b (fun r' H' => Gives r' H' (cDecode.res v) (cDecode.news v)) := by
  unfold cDecode at hv
  unfold cDecode.nf
  refine ⟨⟨by (try clear hv); (try clear q1 q2); (try clear hk); (try simp only [decide_eq_true_eq, decide_eq_false_iff_not, Bool.not_eq_true, Bool.not_eq_false, Bool.and_eq_true, Bool.or_eq_true, Bool.not_not, cond_and, cond_or, List.length_append, List.length_cons, List.length_nil] at *); (first | omega | (intros; (try simp only [Bool.not_not, cond_and, cond_or, Bool.and_eq_true, decide_eq_true_eq] at *); ((try simp only [bne_eq_false_iff_eq] at *); have hl := oTake_len b [4, 3, 1, 2, 2, 2, 2, 5, 1, 2, 1] (by decide) (by assumption); simp only [List.length_cons, List.length_nil] at hl; omega)) | (intros; (try simp only [Bool.not_not, cond_and, cond_or, Bool.and_eq_true, decide_eq_true_eq] at *); ((try simp only [bne_eq_false_iff_eq] at *); have hl := r2Take_len b [4, 3, 1, 2, 2, 2, 2, 5, 1, 2, 1] (by decide) (by assumption); simp only [List.length_cons, List.length_nil] at hl; omega)) | (intros; (try simp only [Bool.not_not, cond_and, cond_or, Bool.and_eq_true, decide_eq_true_eq] at *); (simp [r17fields]; done)) | (intros; omega) | (intros; simp only [sized_iff, r17fields, Bool.not_not, cond_and, cond_or, Bool.and_eq_true, decide_eq_true_eq] at *; omega) | (intros; simp_all [sized_iff, r17fields, Bool.not_not]; done))⟩, ?_⟩
  refine by_cond (fun hb hv => ?_) (fun hb hv => ?_) hv
  · subst hv; exact And.intro (by kernel_rfl) (by kernel_rfl)
  · intro hlen
    refine by_cond (fun hb hv => ?_) (fun hb hv => ?_) hv
    · subst hv; exact And.intro (by kernel_rfl) (by kernel_rfl)
    · refine ⟨⟨by (try clear hv); (try clear q1 q2); (try clear hk); (try simp only [decide_eq_true_eq, decide_eq_false_iff_not, Bool.not_eq_true, Bool.not_eq_false, Bool.and_eq_true, Bool.or_eq_true, Bool.not_not, cond_and, cond_or, List.length_append, List.length_cons, List.length_nil] at *); (first | omega | (intros; (try simp only [Bool.not_not, cond_and, cond_or, Bool.and_eq_true, decide_eq_true_eq] at *); ((try simp only [bne_eq_false_iff_eq] at *); have hl := oTake_len b [4, 3, 1, 2, 2, 2, 2, 5, 1, 2, 1] (by decide) (by assumption); simp only [List.length_cons, List.length_nil] at hl; omega)) | (intros; (try simp only [Bool.not_not, cond_and, cond_or, Bool.and_eq_true, decide_eq_true_eq] at *); ((try simp only [bne_eq_false_iff_eq] at *); have hl := r2Take_len b [4, 3, 1, 2, 2, 2, 2, 5, 1, 2, 1] (by decide) (by assumption); simp only [List.length_cons, List.length_nil] at hl; omega)) | (intros; (try simp only [Bool.not_not, cond_and, cond_or, Bool.and_eq_true, decide_eq_true_eq] at *); (simp [r17fields]; done)) | (intros; omega) | (intros; simp only [sized_iff, r17fields, Bool.not_not, cond_and, cond_or, Bool.and_eq_true, decide_eq_true_eq] at *; omega) | (intros; simp_all [sized_iff, r17fields, Bool.not_not]; done))⟩, ?_⟩
      refine ⟨⟨by (try clear hv); (try clear q1 q2); (try clear hk); (try simp only [decide_eq_true_eq, decide_eq_false_iff_not, Bool.not_eq_true, Bool.not_eq_false, Bool.and_eq_true, Bool.or_eq_true, Bool.not_not, cond_and, cond_or, List.length_append, List.length_cons, List.length_nil] at *); (first | omega | (intros; (try simp only [Bool.not_not, cond_and, cond_or, Bool.and_eq_true, decide_eq_true_eq] at *); ((try simp only [bne_eq_false_iff_eq] at *); have hl := oTake_len b [4, 3, 1, 2, 2, 2, 2, 5, 1, 2, 1] (by decide) (by assumption); simp only [List.length_cons, List.length_nil] at hl; omega)) | (intros; (try simp only [Bool.not_not, cond_and, cond_or, Bool.and_eq_true, decide_eq_true_eq] at *); ((try simp only [bne_eq_false_iff_eq] at *); have hl := r2Take_len b [4, 3, 1, 2, 2, 2, 2, 5, 1, 2, 1] (by decide) (by assumption); simp only [List.length_cons, List.length_nil] at hl; omega)) | (intros; (try simp only [Bool.not_not, cond_and, cond_or, Bool.and_eq_true, decide_eq_true_eq] at *); (simp [r17fields]; done)) | (intros; omega) | (intros; simp only [sized_iff, r17fields, Bool.not_not, cond_and, cond_or, Bool.and_eq_true, decide_eq_true_eq] at *; omega) | (intros; simp_all [sized_iff, r17fields, Bool.not_not]; done))⟩, ?_⟩
      refine ⟨⟨by (try clear hv); (try clear q1 q2); (try clear hk); (try simp only [decide_eq_true_eq, decide_eq_false_iff_not, Bool.not_eq_true, Bool.not_eq_false, Bool.and_eq_true, Bool.or_eq_true, Bool.not_not, cond_and, cond_or, List.length_append, List.length_cons, List.length_nil] at *); (first | omega | (intros; (try simp only [Bool.not_not, cond_and, cond_or, Bool.and_eq_true, decide_eq_true_eq] at *); ((try simp only [bne_eq_false_iff_eq] at *); have hl := oTake_len b [4, 3, 1, 2, 2, 2, 2, 5, 1, 2, 1] (by decide) (by assumption); simp only [List.length_cons, List.length_nil] at hl; omega)) | (intros; (try simp only [Bool.not_not, cond_and, cond_or, Bool.and_eq_true, decide_eq_true_eq] at *); ((try simp only [bne_eq_false_iff_eq] at *); have hl := r2Take_len b [4, 3, 1, 2, 2, 2, 2, 5, 1, 2, 1] (by decide) (by assumption); simp only [List.length_cons, List.length_nil] at hl; omega)) | (intros; (try simp only [Bool.not_not, cond_and, cond_or, Bool.and_eq_true, decide_eq_true_eq] at *); (simp [r17fields]; done)) | (intros; omega) | (intros; simp only [sized_iff, r17fields, Bool.not_not, cond_and, cond_or, Bool.and_eq_true, decide_eq_true_eq] at *; omega) | (intros; simp_all [sized_iff, r17fields, Bool.not_not]; done))⟩, ?_⟩
      refine ⟨⟨by (try clear hv); (try clear q1 q2); (try clear hk); (try simp only [decide_eq_true_eq, decide_eq_false_iff_not, Bool.not_eq_true, Bool.not_eq_false, Bool.and_eq_true, Bool.or_eq_true, Bool.not_not, cond_and, cond_or, List.length_append, List.length_cons, List.length_nil] at *); (first | omega | (intros; (try simp only [Bool.not_not, cond_and, cond_or, Bool.and_eq_true, decide_eq_true_eq] at *); ((try simp only [bne_eq_false_iff_eq] at *); have hl := oTake_len b [4, 3, 1, 2, 2, 2, 2, 5, 1, 2, 1] (by decide) (by assumption); simp only [List.length_cons, List.length_nil] at hl; omega)) | (intros; (try simp only [Bool.not_not, cond_and, cond_or, Bool.and_eq_true, decide_eq_true_eq] at *); ((try simp only [bne_eq_false_iff_eq] at *); have hl := r2Take_len b [4, 3, 1, 2, 2, 2, 2, 5, 1, 2, 1] (by decide) (by assumption); simp only [List.length_cons, List.length_nil] at hl; omega)) | (intros; (try simp only [Bool.not_not, cond_and, cond_or, Bool.and_eq_true, decide_eq_true_eq] at *); (simp [r17fields]; done)) | (intros; omega) | (intros; simp only [sized_iff, r17fields, Bool.not_not, cond_and, cond_or, Bool.and_eq_true, decide_eq_true_eq] at *; omega) | (intros; simp_all [sized_iff, r17fields, Bool.not_not]; done))⟩, ?_⟩
      refine ⟨⟨by (try clear hv); (try clear q1 q2); (try clear hk); (try simp only [decide_eq_true_eq, decide_eq_false_iff_not, Bool.not_eq_true, Bool.not_eq_false, Bool.and_eq_true, Bool.or_eq_true, Bool.not_not, cond_and, cond_or, List.length_append, List.length_cons, List.length_nil] at *); (first | omega | (intros; (try simp only [Bool.not_not, cond_and, cond_or, Bool.and_eq_true, decide_eq_true_eq] at *); ((try simp only [bne_eq_false_iff_eq] at *); have hl := oTake_len b [4, 3, 1, 2, 2, 2, 2, 5, 1, 2, 1] (by decide) (by assumption); simp only [List.length_cons, List.length_nil] at hl; omega)) | (intros; (try simp only [Bool.not_not, cond_and, cond_or, Bool.and_eq_true, decide_eq_true_eq] at *); ((try simp only [bne_eq_false_iff_eq] at *); have hl := r2Take_len b [4, 3, 1, 2, 2, 2, 2, 5, 1, 2, 1] (by decide) (by assumption); simp only [List.length_cons, List.length_nil] at hl; omega)) | (intros; (try simp only [Bool.not_not, cond_and, cond_or, Bool.and_eq_true, decide_eq_true_eq] at *); (simp [r17fields]; done)) | (intros; omega) | (intros; simp only [sized_iff, r17fields, Bool.not_not, cond_and, cond_or, Bool.and_eq_true, decide_eq_true_eq] at *; omega) | (intros; simp_all [sized_iff, r17fields, Bool.not_not]; done))⟩, ?_⟩
      refine ⟨⟨by (try clear hv); (try clear q1 q2); (try clear hk); (try simp only [decide_eq_true_eq, decide_eq_false_iff_not, Bool.not_eq_true, Bool.not_eq_false, Bool.and_eq_true, Bool.or_eq_true, Bool.not_not, cond_and, cond_or, List.length_append, List.length_cons, List.length_nil] at *); (first | omega | (intros; (try simp only [Bool.not_not, cond_and, cond_or, Bool.and_eq_true, decide_eq_true_eq] at *); ((try simp only [bne_eq_false_iff_eq] at *); have hl := oTake_len b [4, 3, 1, 2, 2, 2, 2, 5, 1, 2, 1] (by decide) (by assumption); simp only [List.length_cons, List.length_nil] at hl; omega)) | (intros; (try simp only [Bool.not_not, cond_and, cond_or, Bool.and_eq_true, decide_eq_true_eq] at *); ((try simp only [bne_eq_false_iff_eq] at *); have hl := r2Take_len b [4, 3, 1, 2, 2, 2, 2, 5, 1, 2, 1] (by decide) (by assumption); simp only [List.length_cons, List.length_nil] at hl; omega)) | (intros; (try simp only [Bool.not_not, cond_and, cond_or, Bool.and_eq_true, decide_eq_true_eq] at *); (simp [r17fields]; done)) | (intros; omega) | (intros; simp only [sized_iff, r17fields, Bool.not_not, cond_and, cond_or, Bool.and_eq_true, decide_eq_true_eq] at *; omega) | (intros; simp_all [sized_iff, r17fields, Bool.not_not]; done))⟩, ?_⟩
      refine ⟨⟨by (try clear hv); (try clear q1 q2); (try clear hk); (try simp only [decide_eq_true_eq, decide_eq_false_iff_not, Bool.not_eq_true, Bool.not_eq_false, Bool.and_eq_true, Bool.or_eq_true, Bool.not_not, cond_and, cond_or, List.length_append, List.length_cons, List.length_nil] at *); (first | omega | (intros; (try simp only [Bool.not_not, cond_and, cond_or, Bool.and_eq_true, decide_eq_true_eq] at *); ((try simp only [bne_eq_false_iff_eq] at *); have hl := oTake_len b [4, 3, 1, 2, 2, 2, 2, 5, 1, 2, 1] (by decide) (by assumption); simp only [List.length_cons, List.length_nil] at hl; omega)) | (intros; (try simp only [Bool.not_not, cond_and, cond_or, Bool.and_eq_true, decide_eq_true_eq] at *); ((try simp only [bne_eq_false_iff_eq] at *); have hl := r2Take_len b [4, 3, 1, 2, 2, 2, 2, 5, 1, 2, 1] (by decide) (by assumption); simp only [List.length_cons, List.length_nil] at hl; omega)) | (intros; (try simp only [Bool.not_not, cond_and, cond_or, Bool.and_eq_true, decide_eq_true_eq] at *); (simp [r17fields]; done)) | (intros; omega) | (intros; simp only [sized_iff, r17fields, Bool.not_not, cond_and, cond_or, Bool.and_eq_true, decide_eq_true_eq] at *; omega) | (intros; simp_all [sized_iff, r17fields, Bool.not_not]; done))⟩, ?_⟩
      refine ⟨⟨by (try clear hv); (try clear q1 q2); (try clear hk); (try simp only [decide_eq_true_eq, decide_eq_false_iff_not, Bool.not_eq_true, Bool.not_eq_false, Bool.and_eq_true, Bool.or_eq_true, Bool.not_not, cond_and, cond_or, List.length_append, List.length_cons, List.length_nil] at *); (first | omega | (intros; (try simp only [Bool.not_not, cond_and, cond_or, Bool.and_eq_true, decide_eq_true_eq] at *); ((try simp only [bne_eq_false_iff_eq] at *); have hl := oTake_len b [4, 3, 1, 2, 2, 2, 2, 5, 1, 2, 1] (by decide) (by assumption); simp only [List.length_cons, List.length_nil] at hl; omega)) | (intros; (try simp only [Bool.not_not, cond_and, cond_or, Bool.and_eq_true, decide_eq_true_eq] at *); ((try simp only [bne_eq_false_iff_eq] at *); have hl := r2Take_len b [4, 3, 1, 2, 2, 2, 2, 5, 1, 2, 1] (by decide) (by assumption); simp only [List.length_cons, List.length_nil] at hl; omega)) | (intros; (try simp only [Bool.not_not, cond_and, cond_or, Bool.and_eq_true, decide_eq_true_eq] at *); (simp [r17fields]; done)) | (intros; omega) | (intros; simp only [sized_iff, r17fields, Bool.not_not, cond_and, cond_or, Bool.and_eq_true, decide_eq_true_eq] at *; omega) | (intros; simp_all [sized_iff, r17fields, Bool.not_not]; done))⟩, ?_⟩
      refine ⟨⟨by (try clear hv); (try clear q1 q2); (try clear hk); (try simp only [decide_eq_true_eq, decide_eq_false_iff_not, Bool.not_eq_true, Bool.not_eq_false, Bool.and_eq_true, Bool.or_eq_true, Bool.not_not, cond_and, cond_or, List.length_append, List.length_cons, List.length_nil] at *); (first | omega | (intros; (try simp only [Bool.not_not, cond_and, cond_or, Bool.and_eq_true, decide_eq_true_eq] at *); ((try simp only [bne_eq_false_iff_eq] at *); have hl := oTake_len b [4, 3, 1, 2, 2, 2, 2, 5, 1, 2, 1] (by decide) (by assumption); simp only [List.length_cons, List.length_nil] at hl; omega)) | (intros; (try simp only [Bool.not_not, cond_and, cond_or, Bool.and_eq_true, decide_eq_true_eq] at *); ((try simp only [bne_eq_false_iff_eq] at *); have hl := r2Take_len b [4, 3, 1, 2, 2, 2, 2, 5, 1, 2, 1] (by decide) (by assumption); simp only [List.length_cons, List.length_nil] at hl; omega)) | (intros; (try simp only [Bool.not_not, cond_and, cond_or, Bool.and_eq_true, decide_eq_true_eq] at *); (simp [r17fields]; done)) | (intros; omega) | (intros; simp only [sized_iff, r17fields, Bool.not_not, cond_and, cond_or, Bool.and_eq_true, decide_eq_true_eq] at *; omega) | (intros; simp_all [sized_iff, r17fields, Bool.not_not]; done))⟩, ?_⟩
      refine ⟨⟨by (try clear hv); (try clear q1 q2); (try clear hk); (try simp only [decide_eq_true_eq, decide_eq_false_iff_not, Bool.not_eq_true, Bool.not_eq_false, Bool.and_eq_true, Bool.or_eq_true, Bool.not_not, cond_and, cond_or, List.length_append, List.length_cons, List.length_nil] at *); (first | omega | (intros; (try simp only [Bool.not_not, cond_and, cond_or, Bool.and_eq_true, decide_eq_true_eq] at *); ((try simp only [bne_eq_false_iff_eq] at *); have hl := oTake_len b [4, 3, 1, 2, 2, 2, 2, 5, 1, 2, 1] (by decide) (by assumption); simp only [List.length_cons, List.length_nil] at hl; omega)) | (intros; (try simp only [Bool.not_not, cond_and, cond_or, Bool.and_eq_true, decide_eq_true_eq] at *); ((try simp only [bne_eq_false_iff_eq] at *); have hl := r2Take_len b [4, 3, 1, 2, 2, 2, 2, 5, 1, 2, 1] (by decide) (by assumption); simp only [List.length_cons, List.length_nil] at hl; omega)) | (intros; (try simp only [Bool.not_not, cond_and, cond_or, Bool.and_eq_true, decide_eq_true_eq] at *); (simp [r17fields]; done)) | (intros; omega) | (intros; simp only [sized_iff, r17fields, Bool.not_not, cond_and, cond_or, Bool.and_eq_true, decide_eq_true_eq] at *; omega) | (intros; simp_all [sized_iff, r17fields, Bool.not_not]; done))⟩, ?_⟩
      refine ⟨⟨by (try clear hv); (try clear q1 q2); (try clear hk); (try simp only [decide_eq_true_eq, decide_eq_false_iff_not, Bool.not_eq_true, Bool.not_eq_false, Bool.and_eq_true, Bool.or_eq_true, Bool.not_not, cond_and, cond_or, List.length_append, List.length_cons, List.length_nil] at *); (first | omega | (intros; (try simp only [Bool.not_not, cond_and, cond_or, Bool.and_eq_true, decide_eq_true_eq] at *); ((try simp only [bne_eq_false_iff_eq] at *); have hl := oTake_len b [4, 3, 1, 2, 2, 2, 2, 5, 1, 2, 1] (by decide) (by assumption); simp only [List.length_cons, List.length_nil] at hl; omega)) | (intros; (try simp only [Bool.not_not, cond_and, cond_or, Bool.and_eq_true, decide_eq_true_eq] at *); ((try simp only [bne_eq_false_iff_eq] at *); have hl := r2Take_len b [4, 3, 1, 2, 2, 2, 2, 5, 1, 2, 1] (by decide) (by assumption); simp only [List.length_cons, List.length_nil] at hl; omega)) | (intros; (try simp only [Bool.not_not, cond_and, cond_or, Bool.and_eq_true, decide_eq_true_eq] at *); (simp [r17fields]; done)) | (intros; omega) | (intros; simp only [sized_iff, r17fields, Bool.not_not, cond_and, cond_or, Bool.and_eq_true, decide_eq_true_eq] at *; omega) | (intros; simp_all [sized_iff, r17fields, Bool.not_not]; done))⟩, ?_⟩
      refine ⟨⟨by (try clear hv); (try clear q1 q2); (try clear hk); (try simp only [decide_eq_true_eq, decide_eq_false_iff_not, Bool.not_eq_true, Bool.not_eq_false, Bool.and_eq_true, Bool.or_eq_true, Bool.not_not, cond_and, cond_or, List.length_append, List.length_cons, List.length_nil] at *); (first | omega | (intros; (try simp only [Bool.not_not, cond_and, cond_or, Bool.and_eq_true, decide_eq_true_eq] at *); ((try simp only [bne_eq_false_iff_eq] at *); have hl := oTake_len b [4, 3, 1, 2, 2, 2, 2, 5, 1, 2, 1] (by decide) (by assumption); simp only [List.length_cons, List.length_nil] at hl; omega)) | (intros; (try simp only [Bool.not_not, cond_and, cond_or, Bool.and_eq_true, decide_eq_true_eq] at *); ((try simp only [bne_eq_false_iff_eq] at *); have hl := r2Take_len b [4, 3, 1, 2, 2, 2, 2, 5, 1, 2, 1] (by decide) (by assumption); simp only [List.length_cons, List.length_nil] at hl; omega)) | (intros; (try simp only [Bool.not_not, cond_and, cond_or, Bool.and_eq_true, decide_eq_true_eq] at *); (simp [r17fields]; done)) | (intros; omega) | (intros; simp only [sized_iff, r17fields, Bool.not_not, cond_and, cond_or, Bool.and_eq_true, decide_eq_true_eq] at *; omega) | (intros; simp_all [sized_iff, r17fields, Bool.not_not]; done))⟩, ?_⟩
      refine ⟨⟨by (try clear hv); (try clear q1 q2); (try clear hk); (try simp only [decide_eq_true_eq, decide_eq_false_iff_not, Bool.not_eq_true, Bool.not_eq_false, Bool.and_eq_true, Bool.or_eq_true, Bool.not_not, cond_and, cond_or, List.length_append, List.length_cons, List.length_nil] at *); (first | omega | (intros; (try simp only [Bool.not_not, cond_and, cond_or, Bool.and_eq_true, decide_eq_true_eq] at *); ((try simp only [bne_eq_false_iff_eq] at *); have hl := oTake_len b [4, 3, 1, 2, 2, 2, 2, 5, 1, 2, 1] (by decide) (by assumption); simp only [List.length_cons, List.length_nil] at hl; omega)) | (intros; (try simp only [Bool.not_not, cond_and, cond_or, Bool.and_eq_true, decide_eq_true_eq] at *); ((try simp only [bne_eq_false_iff_eq] at *); have hl := r2Take_len b [4, 3, 1, 2, 2, 2, 2, 5, 1, 2, 1] (by decide) (by assumption); simp only [List.length_cons, List.length_nil] at hl; omega)) | (intros; (try simp only [Bool.not_not, cond_and, cond_or, Bool.and_eq_true, decide_eq_true_eq] at *); (simp [r17fields]; done)) | (intros; omega) | (intros; simp only [sized_iff, r17fields, Bool.not_not, cond_and, cond_or, Bool.and_eq_true, decide_eq_true_eq] at *; omega) | (intros; simp_all [sized_iff, r17fields, Bool.not_not]; done))⟩, ?_⟩
      refine ⟨⟨by (try clear hv); (try clear q1 q2); (try clear hk); (try simp only [decide_eq_true_eq, decide_eq_false_iff_not, Bool.not_eq_true, Bool.not_eq_false, Bool.and_eq_true, Bool.or_eq_true, Bool.not_not, cond_and, cond_or, List.length_append, List.length_cons, List.length_nil] at *); (first | omega | (intros; (try simp only [Bool.not_not, cond_and, cond_or, Bool.and_eq_true, decide_eq_true_eq] at *); ((try simp only [bne_eq_false_iff_eq] at *); have hl := oTake_len b [4, 3, 1, 2, 2, 2, 2, 5, 1, 2, 1] (by decide) (by assumption); simp only [List.length_cons, List.length_nil] at hl; omega)) | (intros; (try simp only [Bool.not_not, cond_and, cond_or, Bool.and_eq_true, decide_eq_true_eq] at *); ((try simp only [bne_eq_false_iff_eq] at *); have hl := r2Take_len b [4, 3, 1, 2, 2, 2, 2, 5, 1, 2, 1] (by decide) (by assumption); simp only [List.length_cons, List.length_nil] at hl; omega)) | (intros; (try simp only [Bool.not_not, cond_and, cond_or, Bool.and_eq_true, decide_eq_true_eq] at *); (simp [r17fields]; done)) | (intros; omega) | (intros; simp only [sized_iff, r17fields, Bool.not_not, cond_and, cond_or, Bool.and_eq_true, decide_eq_true_eq] at *; omega) | (intros; simp_all [sized_iff, r17fields, Bool.not_not]; done))⟩, ?_⟩
      refine ⟨⟨by (try clear hv); (try clear q1 q2); (try clear hk); (try simp only [decide_eq_true_eq, decide_eq_false_iff_not, Bool.not_eq_true, Bool.not_eq_false, Bool.and_eq_true, Bool.or_eq_true, Bool.not_not, cond_and, cond_or, List.length_append, List.length_cons, List.length_nil] at *); (first | omega | (intros; (try simp only [Bool.not_not, cond_and, cond_or, Bool.and_eq_true, decide_eq_true_eq] at *); ((try simp only [bne_eq_false_iff_eq] at *); have hl := oTake_len b [4, 3, 1, 2, 2, 2, 2, 5, 1, 2, 1] (by decide) (by assumption); simp only [List.length_cons, List.length_nil] at hl; omega)) | (intros; (try simp only [Bool.not_not, cond_and, cond_or, Bool.and_eq_true, decide_eq_true_eq] at *); ((try simp only [bne_eq_false_iff_eq] at *); have hl := r2Take_len b [4, 3, 1, 2, 2, 2, 2, 5, 1, 2, 1] (by decide) (by assumption); simp only [List.length_cons, List.length_nil] at hl; omega)) | (intros; (try simp only [Bool.not_not, cond_and, cond_or, Bool.and_eq_true, decide_eq_true_eq] at *); (simp [r17fields]; done)) | (intros; omega) | (intros; simp only [sized_iff, r17fields, Bool.not_not, cond_and, cond_or, Bool.and_eq_true, decide_eq_true_eq] at *; omega) | (intros; simp_all [sized_iff, r17fields, Bool.not_not]; done))⟩, ?_⟩
      refine ⟨⟨by (try clear hv); (try clear q1 q2); (try clear hk); (try simp only [decide_eq_true_eq, decide_eq_false_iff_not, Bool.not_eq_true, Bool.not_eq_false, Bool.and_eq_true, Bool.or_eq_true, Bool.not_not, cond_and, cond_or, List.length_append, List.length_cons, List.length_nil] at *); (first | omega | (intros; (try simp only [Bool.not_not, cond_and, cond_or, Bool.and_eq_true, decide_eq_true_eq] at *); ((try simp only [bne_eq_false_iff_eq] at *); have hl := oTake_len b [4, 3, 1, 2, 2, 2, 2, 5, 1, 2, 1] (by decide) (by assumption); simp only [List.length_cons, List.length_nil] at hl; omega)) | (intros; (try simp only [Bool.not_not, cond_and, cond_or, Bool.and_eq_true, decide_eq_true_eq] at *); ((try simp only [bne_eq_false_iff_eq] at *); have hl := r2Take_len b [4, 3, 1, 2, 2, 2, 2, 5, 1, 2, 1] (by decide) (by assumption); simp only [List.length_cons, List.length_nil] at hl; omega)) | (intros; (try simp only [Bool.not_not, cond_and, cond_or, Bool.and_eq_true, decide_eq_true_eq] at *); (simp [r17fields]; done)) | (intros; omega) | (intros; simp only [sized_iff, r17fields, Bool.not_not, cond_and, cond_or, Bool.and_eq_true, decide_eq_true_eq] at *; omega) | (intros; simp_all [sized_iff, r17fields, Bool.not_not]; done))⟩, ?_⟩
      refine ⟨⟨by (try clear hv); (try clear q1 q2); (try clear hk); (try simp only [decide_eq_true_eq, decide_eq_false_iff_not, Bool.not_eq_true, Bool.not_eq_false, Bool.and_eq_true, Bool.or_eq_true, Bool.not_not, cond_and, cond_or, List.length_append, List.length_cons, List.length_nil] at *); (first | omega | (intros; (try simp only [Bool.not_not, cond_and, cond_or, Bool.and_eq_true, decide_eq_true_eq] at *); ((try simp only [bne_eq_false_iff_eq] at *); have hl := oTake_len b [4, 3, 1, 2, 2, 2, 2, 5, 1, 2, 1] (by decide) (by assumption); simp only [List.length_cons, List.length_nil] at hl; omega)) | (intros; (try simp only [Bool.not_not, cond_and, cond_or, Bool.and_eq_true, decide_eq_true_eq] at *); ((try simp only [bne_eq_false_iff_eq] at *); have hl := r2Take_len b [4, 3, 1, 2, 2, 2, 2, 5, 1, 2, 1] (by decide) (by assumption); simp only [List.length_cons, List.length_nil] at hl; omega)) | (intros; (try simp only [Bool.not_not, cond_and, cond_or, Bool.and_eq_true, decide_eq_true_eq] at *); (simp [r17fields]; done)) | (intros; omega) | (intros; simp only [sized_iff, r17fields, Bool.not_not, cond_and, cond_or, Bool.and_eq_true, decide_eq_true_eq] at *; omega) | (intros; simp_all [sized_iff, r17fields, Bool.not_not]; done))⟩, ?_⟩
      refine ⟨⟨by (try clear hv); (try clear q1 q2); (try clear hk); (try simp only [decide_eq_true_eq, decide_eq_false_iff_not, Bool.not_eq_true, Bool.not_eq_false, Bool.and_eq_true, Bool.or_eq_true, Bool.not_not, cond_and, cond_or, List.length_append, List.length_cons, List.length_nil] at *); (first | omega | (intros; (try simp only [Bool.not_not, cond_and, cond_or, Bool.and_eq_true, decide_eq_true_eq] at *); ((try simp only [bne_eq_false_iff_eq] at *); have hl := oTake_len b [4, 3, 1, 2, 2, 2, 2, 5, 1, 2, 1] (by decide) (by assumption); simp only [List.length_cons, List.length_nil] at hl; omega)) | (intros; (try simp only [Bool.not_not, cond_and, cond_or, Bool.and_eq_true, decide_eq_true_eq] at *); ((try simp only [bne_eq_false_iff_eq] at *); have hl := r2Take_len b [4, 3, 1, 2, 2, 2, 2, 5, 1, 2, 1] (by decide) (by assumption); simp only [List.length_cons, List.length_nil] at hl; omega)) | (intros; (try simp only [Bool.not_not, cond_and, cond_or, Bool.and_eq_true, decide_eq_true_eq] at *); (simp [r17fields]; done)) | (intros; omega) | (intros; simp only [sized_iff, r17fields, Bool.not_not, cond_and, cond_or, Bool.and_eq_true, decide_eq_true_eq] at *; omega) | (intros; simp_all [sized_iff, r17fields, Bool.not_not]; done))⟩, ?_⟩
      refine ⟨⟨by (try clear hv); (try clear q1 q2); (try clear hk); (try simp only [decide_eq_true_eq, decide_eq_false_iff_not, Bool.not_eq_true, Bool.not_eq_false, Bool.and_eq_true, Bool.or_eq_true, Bool.not_not, cond_and, cond_or, List.length_append, List.length_cons, List.length_nil] at *); (first | omega | (intros; (try simp only [Bool.not_not, cond_and, cond_or, Bool.and_eq_true, decide_eq_true_eq] at *); ((try simp only [bne_eq_false_iff_eq] at *); have hl := oTake_len b [4, 3, 1, 2, 2, 2, 2, 5, 1, 2, 1] (by decide) (by assumption); simp only [List.length_cons, List.length_nil] at hl; omega)) | (intros; (try simp only [Bool.not_not, cond_and, cond_or, Bool.and_eq_true, decide_eq_true_eq] at *); ((try simp only [bne_eq_false_iff_eq] at *); have hl := r2Take_len b [4, 3, 1, 2, 2, 2, 2, 5, 1, 2, 1] (by decide) (by assumption); simp only [List.length_cons, List.length_nil] at hl; omega)) | (intros; (try simp only [Bool.not_not, cond_and, cond_or, Bool.and_eq_true, decide_eq_true_eq] at *); (simp [r17fields]; done)) | (intros; omega) | (intros; simp only [sized_iff, r17fields, Bool.not_not, cond_and, cond_or, Bool.and_eq_true, decide_eq_true_eq] at *; omega) | (intros; simp_all [sized_iff, r17fields, Bool.not_not]; done))⟩, ?_⟩
      refine ⟨⟨by (try clear hv); (try clear q1 q2); (try clear hk); (try simp only [decide_eq_true_eq, decide_eq_false_iff_not, Bool.not_eq_true, Bool.not_eq_false, Bool.and_eq_true, Bool.or_eq_true, Bool.not_not, cond_and, cond_or, List.length_append, List.length_cons, List.length_nil] at *); (first | omega | (intros; (try simp only [Bool.not_not, cond_and, cond_or, Bool.and_eq_true, decide_eq_true_eq] at *); ((try simp only [bne_eq_false_iff_eq] at *); have hl := oTake_len b [4, 3, 1, 2, 2, 2, 2, 5, 1, 2, 1] (by decide) (by assumption); simp only [List.length_cons, List.length_nil] at hl; omega)) | (intros; (try simp only [Bool.not_not, cond_and, cond_or, Bool.and_eq_true, decide_eq_true_eq] at *); ((try simp only [bne_eq_false_iff_eq] at *); have hl := r2Take_len b [4, 3, 1, 2, 2, 2, 2, 5, 1, 2, 1] (by decide) (by assumption); simp only [List.length_cons, List.length_nil] at hl; omega)) | (intros; (try simp only [Bool.not_not, cond_and, cond_or, Bool.and_eq_true, decide_eq_true_eq] at *); (simp [r17fields]; done)) | (intros; omega) | (intros; simp only [sized_iff, r17fields, Bool.not_not, cond_and, cond_or, Bool.and_eq_true, decide_eq_true_eq] at *; omega) | (intros; simp_all [sized_iff, r17fields, Bool.not_not]; done))⟩, ?_⟩
      refine ⟨⟨by (try clear hv); (try clear q1 q2); (try clear hk); (try simp only [decide_eq_true_eq, decide_eq_false_iff_not, Bool.not_eq_true, Bool.not_eq_false, Bool.and_eq_true, Bool.or_eq_true, Bool.not_not, cond_and, cond_or, List.length_append, List.length_cons, List.length_nil] at *); (first | omega | (intros; (try simp only [Bool.not_not, cond_and, cond_or, Bool.and_eq_true, decide_eq_true_eq] at *); ((try simp only [bne_eq_false_iff_eq] at *); have hl := oTake_len b [4, 3, 1, 2, 2, 2, 2, 5, 1, 2, 1] (by decide) (by assumption); simp only [List.length_cons, List.length_nil] at hl; omega)) | (intros; (try simp only [Bool.not_not, cond_and, cond_or, Bool.and_eq_true, decide_eq_true_eq] at *); ((try simp only [bne_eq_false_iff_eq] at *); have hl := r2Take_len b [4, 3, 1, 2, 2, 2, 2, 5, 1, 2, 1] (by decide) (by assumption); simp only [List.length_cons, List.length_nil] at hl; omega)) | (intros; (try simp only [Bool.not_not, cond_and, cond_or, Bool.and_eq_true, decide_eq_true_eq] at *); (simp [r17fields]; done)) | (intros; omega) | (intros; simp only [sized_iff, r17fields, Bool.not_not, cond_and, cond_or, Bool.and_eq_true, decide_eq_true_eq] at *; omega) | (intros; simp_all [sized_iff, r17fields, Bool.not_not]; done))⟩, ?_⟩
      refine ⟨⟨by (try clear hv); (try clear q1 q2); (try clear hk); (try simp only [decide_eq_true_eq, decide_eq_false_iff_not, Bool.not_eq_true, Bool.not_eq_false, Bool.and_eq_true, Bool.or_eq_true, Bool.not_not, cond_and, cond_or, List.length_append, List.length_cons, List.length_nil] at *); (first | omega | (intros; (try simp only [Bool.not_not, cond_and, cond_or, Bool.and_eq_true, decide_eq_true_eq] at *); ((try simp only [bne_eq_false_iff_eq] at *); have hl := oTake_len b [4, 3, 1, 2, 2, 2, 2, 5, 1, 2, 1] (by decide) (by assumption); simp only [List.length_cons, List.length_nil] at hl; omega)) | (intros; (try simp only [Bool.not_not, cond_and, cond_or, Bool.and_eq_true, decide_eq_true_eq] at *); ((try simp only [bne_eq_false_iff_eq] at *); have hl := r2Take_len b [4, 3, 1, 2, 2, 2, 2, 5, 1, 2, 1] (by decide) (by assumption); simp only [List.length_cons, List.length_nil] at hl; omega)) | (intros; (try simp only [Bool.not_not, cond_and, cond_or, Bool.and_eq_true, decide_eq_true_eq] at *); (simp [r17fields]; done)) | (intros; omega) | (intros; simp only [sized_iff, r17fields, Bool.not_not, cond_and, cond_or, Bool.and_eq_true, decide_eq_true_eq] at *; omega) | (intros; simp_all [sized_iff, r17fields, Bool.not_not]; done))⟩, ?_⟩
      refine by_cond (fun hb hv => ?_) (fun hb hv => ?_) hv
      · subst hv; exact And.intro (by kernel_rfl) (by kernel_rfl)
      · subst hv; exact And.intro (by kernel_rfl) (by kernel_rfl)
def cDecode.ct : Ct El := ctOf cDecode.dec (fun x => [x.length ≤ 140737488355328]) (fun x => cDecode.res (cDecode x)) (fun x => cDecode.news (cDecode x))
theorem cDecode.ok : CtOk (mkCx Try.prog S [] 0) 18 cDecode.ct := ct_mk (C := (mkCx Try.prog S tab_r2Take 0)) (mkCx_ok sigOk mixed tab_r2Take_ok 0) cDecode.dec_ok (fun x => rfl) 4 (fun x hp => (cDecode.nf_ok x _).mpr (cDecode.key x (hp _ (List.mem_singleton.2 rfl)) _ rfl))
def tab_cDecode : List (FuncId × Ct El) := (18, cDecode.ct) :: tab_r17Check
theorem tab_cDecode_ok : TabOk Try.prog S tab_cDecode := ⟨cDecode.ok, by kernel_rfl, tab_r17Check_ok⟩

/-! wireless/wirelessref02.Same -/
def r2Same.res (r : Bool) : AV El := .v (.bool (r))
def r2Same.news (r : Bool) : List (AObj El) := []
def r2Same (a : List Int) (b : List Int) : Bool := strEq (ofInts (id a)) (ofInts (id b))
def r2Same.dec (cs : List (AV El)) : Option ((List Int) × (List Int)) := popS 5 cs fun a0 c0 => popS 5 c0 fun a1 c1 => popE c1 (a0, a1)
def r2Same.enc (x : (List Int) × (List Int)) : List (AV El) := [.sl 5 (x.1 : List (El 5)) false, .sl 5 (x.2 : List (El 5)) false]
theorem r2Same.dec_ok : ∀ cs x, r2Same.dec cs = some x → Imp (S := S) cs (r2Same.enc x) := by
  intro cs x h
  unfold r2Same.dec at h
  obtain ⟨a0, c0, h0, k0⟩ := popS_some (S := S) (t := 5) h
  obtain ⟨a1, c1, h1, k1⟩ := popS_some (S := S) (t := 5) h0
  obtain ⟨rfl, rfl⟩ := popE_some (S := S) h1
  exact (k0 _ (k1 _ (.refl _)))
def r2Same.nf (a : List Int) (b : List Int) (K : AV El → List (AObj El) → Prop) : Prop := K (.v (.bool (strEq (ofInts (id a)) (ofInts (id b))))) []
theorem r2Same.nf_ok (a : List Int) (b : List Int) (K : AV El → List (AObj El) → Prop) : evFun (mkCx Try.prog S tab_r2Take 0) 4 20 [.sl 5 (a : List (El 5)) false, .sl 5 (b : List (El 5)) false] [] K = r2Same.nf a b K := by kernel_rfl
theorem r2Same.key (a : List Int) (b : List Int) (v : Bool) (hv : v = r2Same a b) : r2Same.nf a b (fun r' H' => Gives r' H' (r2Same.res v) (r2Same.news v)) := by
  unfold r2Same at hv
  unfold r2Same.nf
  subst hv; exact And.intro (by kernel_rfl) (by kernel_rfl)
def r2Same.ct : Ct El := ctOf r2Same.dec (fun _ => []) (fun x => r2Same.res (r2Same x.1 x.2)) (fun x => r2Same.news (r2Same x.1 x.2))
theorem r2Same.ok : CtOk (mkCx Try.prog S [] 0) 20 r2Same.ct := ct_mk (C := (mkCx Try.prog S tab_r2Take 0)) (mkCx_ok sigOk mixed tab_r2Take_ok 0) r2Same.dec_ok (fun x => rfl) 4 (fun x _ => (r2Same.nf_ok x.1 x.2 _).mpr (r2Same.key x.1 x.2 _ rfl))
def tab_r2Same : List (FuncId × Ct El) := (20, r2Same.ct) :: tab_cDecode
theorem tab_r2Same_ok : TabOk Try.prog S tab_r2Same := ⟨r2Same.ok, by kernel_rfl, tab_cDecode_ok⟩

/-! wireless/wirelessref17.Encode -/
def r17Encode.res (r : (List Int) × Int) : AV El := .tup [.gs 0, .v (.int .i64 (r.2))]
def r17Encode.news (r : (List Int) × Int) : List (AObj El) := [.row 5 (r.1 : List (El 5))]
def r17Encode (p : ConnParams) : (List Int) × Int := cond (r17Check p != (0 : Int)) (([], r17Check p)) (((r2Put (r17fields p)).fst, (r2Put (r17fields p)).snd))
def r17Encode.dec (cs : List (AV El)) : Option (ConnParams) := popA ConnParams.dec cs fun a0 c0 => popE c0 a0
def r17Encode.enc (x : ConnParams) : List (AV El) := [ConnParams.av x]
theorem r17Encode.dec_ok : ∀ cs x, r17Encode.dec cs = some x → Imp (S := S) cs (r17Encode.enc x) := by
  intro cs x h
  unfold r17Encode.dec at h
  obtain ⟨a0, c0, h0, k0⟩ := popA_some (S := S) ConnParams.dec_ok h
  obtain ⟨rfl, rfl⟩ := popE_some (S := S) h0
  exact (k0 _ (.refl _))
def r17Encode.nf (p : ConnParams) (K : AV El → List (AObj El) → Prop) : Prop := cond (r17Check p != (0 : Int)) (K (.tup [.v (.slice none 0 0), .v (.int .i64 (r17Check p))]) [.cells [.v (.int .u32 (p.Access)), .v (.int .u32 (p.Init)), .v (.int .i64 (p.Update.WinSize)), .v (.int .i64 (p.Update.WinOffset)), .v (.int .i64 (p.Update.Interval)), .v (.int .i64 (p.Update.Latency)), .v (.int .i64 (p.Update.Timeout)), .v (.int .u64 (p.Map)), .v (.int .i64 (p.Hop)), .v (.int .i64 (p.PPM)), .v (.int .i64 (p.Algorithm))]]) (Ob (List.length (r17fields p) ≤ (1099511627776 : Nat)) ∧ (K (.tup [.gs 2, .v (.int .i64 ((r2Put (r17fields p)).snd))]) [.cells [.v (.int .u32 (p.Access)), .v (.int .u32 (p.Init)), .v (.int .i64 (p.Update.WinSize)), .v (.int .i64 (p.Update.WinOffset)), .v (.int .i64 (p.Update.Interval)), .v (.int .i64 (p.Update.Latency)), .v (.int .i64 (p.Update.Timeout)), .v (.int .u64 (p.Map)), .v (.int .i64 (p.Hop)), .v (.int .i64 (p.PPM)), .v (.int .i64 (p.Algorithm))], .frozen 73 (r17fields p), .row 5 ((r2Put (r17fields p)).fst)]))
theorem r17Encode.nf_ok (p : ConnParams) (K : AV El → List (AObj El) → Prop) : evFun (mkCx Try.prog S tab_r2Same 0) 4 17 [ConnParams.av p] [] K = r17Encode.nf p K := by kernel_rfl
theorem r17Encode.key (p : ConnParams) (v : (List Int) × Int) (hv : v = r17Encode p) : r17Encode.nf p (fun r' H' => Gives r' H' (r17Encode.res v) (r17Encode.news v)) := by
  unfold r17Encode at hv
  unfold r17Encode.nf
  refine by_cond (fun hb hv => ?_) (fun hb hv => ?_) hv
  · subst hv; exact And.intro (by kernel_rfl) (by kernel_rfl)
  · refine ⟨⟨by (try clear hv); (try clear q1 q2); (try clear hk); (try simp only [decide_eq_true_eq, decide_eq_false_iff_not, Bool.not_eq_true, Bool.not_eq_false, Bool.and_eq_true, Bool.or_eq_true, Bool.not_not, cond_and, cond_or, List.length_append, List.length_cons, List.length_nil] at *); (first | omega | (intros; (try simp only [Bool.not_not, cond_and, cond_or, Bool.and_eq_true, decide_eq_true_eq] at *); ((try simp only [bne_eq_false_iff_eq] at *); have hl := oTake_len b [4, 3, 1, 2, 2, 2, 2, 5, 1, 2, 1] (by decide) (by assumption); simp only [List.length_cons, List.length_nil] at hl; omega)) | (intros; (try simp only [Bool.not_not, cond_and, cond_or, Bool.and_eq_true, decide_eq_true_eq] at *); ((try simp only [bne_eq_false_iff_eq] at *); have hl := r2Take_len b [4, 3, 1, 2, 2, 2, 2, 5, 1, 2, 1] (by decide) (by assumption); simp only [List.length_cons, List.length_nil] at hl; omega)) | (intros; (try simp only [Bool.not_not, cond_and, cond_or, Bool.and_eq_true, decide_eq_true_eq] at *); (simp [r17fields]; done)) | (intros; omega) | (intros; simp only [sized_iff, r17fields, Bool.not_not, cond_and, cond_or, Bool.and_eq_true, decide_eq_true_eq] at *; omega) | (intros; simp_all [sized_iff, r17fields, Bool.not_not]; done))⟩, ?_⟩
    subst hv; exact And.intro (by kernel_rfl) (by kernel_rfl)
def r17Encode.ct : Ct El := ctOf r17Encode.dec (fun _ => []) (fun x => r17Encode.res (r17Encode x)) (fun x => r17Encode.news (r17Encode x))
theorem r17Encode.ok : CtOk (mkCx Try.prog S [] 0) 17 r17Encode.ct := ct_mk (C := (mkCx Try.prog S tab_r2Same 0)) (mkCx_ok sigOk mixed tab_r2Same_ok 0) r17Encode.dec_ok (fun x => rfl) 4 (fun x _ => (r17Encode.nf_ok x _).mpr (r17Encode.key x _ rfl))
def tab_r17Encode : List (FuncId × Ct El) := (17, r17Encode.ct) :: tab_r2Same
theorem tab_r17Encode_ok : TabOk Try.prog S tab_r17Encode := ⟨r17Encode.ok, by kernel_rfl, tab_r2Same_ok⟩

/-! wireless/wirelessref17.Decode -/
def r17Decode.res (r : ConnParams × Int) : AV El := .tup [ConnParams.av (r.1), .v (.int .i64 (r.2))]
def r17Decode.news (r : ConnParams × Int) : List (AObj El) := []
def r17Decode (b : List Int) : ConnParams × Int := cond ((r2Take b
        [(4 : Int), (3 : Int), (1 : Int), (2 : Int), (2 : Int), (2 : Int), (2 : Int), (5 : Int), (1 : Int), (2 : Int),
          (1 : Int)]).snd.snd !=
  (0 : Int)) (((⟨((0 : Int)), ((0 : Int)), ⟨((0 : Int)), ((0 : Int)), ((0 : Int)), ((0 : Int)), ((0 : Int))⟩, ((0 : Int)), ((0 : Int)), ((0 : Int)), ((0 : Int))⟩ : ConnParams), (r2Take b
      [(4 : Int), (3 : Int), (1 : Int), (2 : Int), (2 : Int), (2 : Int), (2 : Int), (5 : Int), (1 : Int), (2 : Int),
        (1 : Int)]).snd.snd)) (cond (decide
  ((0 : Int) <
    (↑(List.length
          (r2Take b
                [(4 : Int), (3 : Int), (1 : Int), (2 : Int), (2 : Int), (2 : Int), (2 : Int), (5 : Int), (1 : Int),
                  (2 : Int), (1 : Int)]).snd.fst) :
      Int))) (((⟨((0 : Int)), ((0 : Int)), ⟨((0 : Int)), ((0 : Int)), ((0 : Int)), ((0 : Int)), ((0 : Int))⟩, ((0 : Int)), ((0 : Int)), ((0 : Int)), ((0 : Int))⟩ : ConnParams), (2 : Int))) (cond (r17Check
    {
      Access :=
        IntKind.wrap IntKind.u32
          (List.getD
            (r2Take b
                [(4 : Int), (3 : Int), (1 : Int), (2 : Int), (2 : Int), (2 : Int), (2 : Int), (5 : Int), (1 : Int),
                  (2 : Int), (1 : Int)]).fst
            (Int.toNat (0 : Int)) (0 : Int)),
      Init :=
        IntKind.wrap IntKind.u32
          (List.getD
            (r2Take b
                [(4 : Int), (3 : Int), (1 : Int), (2 : Int), (2 : Int), (2 : Int), (2 : Int), (5 : Int), (1 : Int),
                  (2 : Int), (1 : Int)]).fst
            (Int.toNat (1 : Int)) (0 : Int)),
      Update :=
        {
          WinSize :=
            IntKind.wrap IntKind.i64
              (List.getD
                (r2Take b
                    [(4 : Int), (3 : Int), (1 : Int), (2 : Int), (2 : Int), (2 : Int), (2 : Int), (5 : Int), (1 : Int),
                      (2 : Int), (1 : Int)]).fst
                (Int.toNat (2 : Int)) (0 : Int)),
          WinOffset :=
            IntKind.wrap IntKind.i64
              (List.getD
                (r2Take b
                    [(4 : Int), (3 : Int), (1 : Int), (2 : Int), (2 : Int), (2 : Int), (2 : Int), (5 : Int), (1 : Int),
                      (2 : Int), (1 : Int)]).fst
                (Int.toNat (3 : Int)) (0 : Int)),
          Interval :=
            IntKind.wrap IntKind.i64
              (List.getD
                (r2Take b
                    [(4 : Int), (3 : Int), (1 : Int), (2 : Int), (2 : Int), (2 : Int), (2 : Int), (5 : Int), (1 : Int),
                      (2 : Int), (1 : Int)]).fst
                (Int.toNat (4 : Int)) (0 : Int)),
          Latency :=
            IntKind.wrap IntKind.i64
              (List.getD
                (r2Take b
                    [(4 : Int), (3 : Int), (1 : Int), (2 : Int), (2 : Int), (2 : Int), (2 : Int), (5 : Int), (1 : Int),
                      (2 : Int), (1 : Int)]).fst
                (Int.toNat (5 : Int)) (0 : Int)),
          Timeout :=
            IntKind.wrap IntKind.i64
              (List.getD
                (r2Take b
                    [(4 : Int), (3 : Int), (1 : Int), (2 : Int), (2 : Int), (2 : Int), (2 : Int), (5 : Int), (1 : Int),
                      (2 : Int), (1 : Int)]).fst
                (Int.toNat (6 : Int)) (0 : Int)) },
      Map :=
        List.getD
          (r2Take b
              [(4 : Int), (3 : Int), (1 : Int), (2 : Int), (2 : Int), (2 : Int), (2 : Int), (5 : Int), (1 : Int),
                (2 : Int), (1 : Int)]).fst
          (Int.toNat (7 : Int)) (0 : Int),
      Hop :=
        IntKind.wrap IntKind.i64
          (List.getD
            (r2Take b
                [(4 : Int), (3 : Int), (1 : Int), (2 : Int), (2 : Int), (2 : Int), (2 : Int), (5 : Int), (1 : Int),
                  (2 : Int), (1 : Int)]).fst
            (Int.toNat (8 : Int)) (0 : Int)),
      PPM :=
        IntKind.wrap IntKind.i64
          (List.getD
            (r2Take b
                [(4 : Int), (3 : Int), (1 : Int), (2 : Int), (2 : Int), (2 : Int), (2 : Int), (5 : Int), (1 : Int),
                  (2 : Int), (1 : Int)]).fst
            (Int.toNat (9 : Int)) (0 : Int)),
      Algorithm :=
        IntKind.wrap IntKind.i64
          (List.getD
            (r2Take b
                [(4 : Int), (3 : Int), (1 : Int), (2 : Int), (2 : Int), (2 : Int), (2 : Int), (5 : Int), (1 : Int),
                  (2 : Int), (1 : Int)]).fst
            (Int.toNat (10 : Int)) (0 : Int)) } !=
  (0 : Int)) (((⟨((0 : Int)), ((0 : Int)), ⟨((0 : Int)), ((0 : Int)), ((0 : Int)), ((0 : Int)), ((0 : Int))⟩, ((0 : Int)), ((0 : Int)), ((0 : Int)), ((0 : Int))⟩ : ConnParams), r17Check
  {
    Access :=
      IntKind.wrap IntKind.u32
        (List.getD
          (r2Take b
              [(4 : Int), (3 : Int), (1 : Int), (2 : Int), (2 : Int), (2 : Int), (2 : Int), (5 : Int), (1 : Int),
                (2 : Int), (1 : Int)]).fst
          (Int.toNat (0 : Int)) (0 : Int)),
    Init :=
      IntKind.wrap IntKind.u32
        (List.getD
          (r2Take b
              [(4 : Int), (3 : Int), (1 : Int), (2 : Int), (2 : Int), (2 : Int), (2 : Int), (5 : Int), (1 : Int),
                (2 : Int), (1 : Int)]).fst
          (Int.toNat (1 : Int)) (0 : Int)),
    Update :=
      {
        WinSize :=
          IntKind.wrap IntKind.i64
            (List.getD
              (r2Take b
                  [(4 : Int), (3 : Int), (1 : Int), (2 : Int), (2 : Int), (2 : Int), (2 : Int), (5 : Int), (1 : Int),
                    (2 : Int), (1 : Int)]).fst
              (Int.toNat (2 : Int)) (0 : Int)),
        WinOffset :=
          IntKind.wrap IntKind.i64
            (List.getD
              (r2Take b
                  [(4 : Int), (3 : Int), (1 : Int), (2 : Int), (2 : Int), (2 : Int), (2 : Int), (5 : Int), (1 : Int),
                    (2 : Int), (1 : Int)]).fst
              (Int.toNat (3 : Int)) (0 : Int)),
        Interval :=
          IntKind.wrap IntKind.i64
            (List.getD
              (r2Take b
                  [(4 : Int), (3 : Int), (1 : Int), (2 : Int), (2 : Int), (2 : Int), (2 : Int), (5 : Int), (1 : Int),
                    (2 : Int), (1 : Int)]).fst
              (Int.toNat (4 : Int)) (0 : Int)),
        Latency :=
          IntKind.wrap IntKind.i64
            (List.getD
              (r2Take b
                  [(4 : Int), (3 : Int), (1 : Int), (2 : Int), (2 : Int), (2 : Int), (2 : Int), (5 : Int), (1 : Int),
                    (2 : Int), (1 : Int)]).fst
              (Int.toNat (5 : Int)) (0 : Int)),
        Timeout :=
          IntKind.wrap IntKind.i64
            (List.getD
              (r2Take b
                  [(4 : Int), (3 : Int), (1 : Int), (2 : Int), (2 : Int), (2 : Int), (2 : Int), (5 : Int), (1 : Int),
                    (2 : Int), (1 : Int)]).fst
              (Int.toNat (6 : Int)) (0 : Int)) },
    Map :=
      List.getD
        (r2Take b
            [(4 : Int), (3 : Int), (1 : Int), (2 : Int), (2 : Int), (2 : Int), (2 : Int), (5 : Int), (1 : Int),
              (2 : Int), (1 : Int)]).fst
        (Int.toNat (7 : Int)) (0 : Int),
    Hop :=
      IntKind.wrap IntKind.i64
        (List.getD
          (r2Take b
              [(4 : Int), (3 : Int), (1 : Int), (2 : Int), (2 : Int), (2 : Int), (2 : Int), (5 : Int), (1 : Int),
                (2 : Int), (1 : Int)]).fst
          (Int.toNat (8 : Int)) (0 : Int)),
    PPM :=
      IntKind.wrap IntKind.i64
        (List.getD
          (r2Take b
              [(4 : Int), (3 : Int), (1 : Int), (2 : Int), (2 : Int), (2 : Int), (2 : Int), (5 : Int), (1 : Int),
                (2 : Int), (1 : Int)]).fst
          (Int.toNat (9 : Int)) (0 : Int)),
    Algorithm :=
      IntKind.wrap IntKind.i64
        (List.getD
          (r2Take b
              [(4 : Int), (3 : Int), (1 : Int), (2 : Int), (2 : Int), (2 : Int), (2 : Int), (5 : Int), (1 : Int),
                (2 : Int), (1 : Int)]).fst
          (Int.toNat (10 : Int)) (0 : Int)) })) (((⟨(IntKind.wrap IntKind.u32
  (List.getD
    (r2Take b
        [(4 : Int), (3 : Int), (1 : Int), (2 : Int), (2 : Int), (2 : Int), (2 : Int), (5 : Int), (1 : Int), (2 : Int),
          (1 : Int)]).fst
    (Int.toNat (0 : Int)) (0 : Int))), (IntKind.wrap IntKind.u32
  (List.getD
    (r2Take b
        [(4 : Int), (3 : Int), (1 : Int), (2 : Int), (2 : Int), (2 : Int), (2 : Int), (5 : Int), (1 : Int), (2 : Int),
          (1 : Int)]).fst
    (Int.toNat (1 : Int)) (0 : Int))), ⟨(IntKind.wrap IntKind.i64
  (List.getD
    (r2Take b
        [(4 : Int), (3 : Int), (1 : Int), (2 : Int), (2 : Int), (2 : Int), (2 : Int), (5 : Int), (1 : Int), (2 : Int),
          (1 : Int)]).fst
    (Int.toNat (2 : Int)) (0 : Int))), (IntKind.wrap IntKind.i64
  (List.getD
    (r2Take b
        [(4 : Int), (3 : Int), (1 : Int), (2 : Int), (2 : Int), (2 : Int), (2 : Int), (5 : Int), (1 : Int), (2 : Int),
          (1 : Int)]).fst
    (Int.toNat (3 : Int)) (0 : Int))), (IntKind.wrap IntKind.i64
  (List.getD
    (r2Take b
        [(4 : Int), (3 : Int), (1 : Int), (2 : Int), (2 : Int), (2 : Int), (2 : Int), (5 : Int), (1 : Int), (2 : Int),
          (1 : Int)]).fst
    (Int.toNat (4 : Int)) (0 : Int))), (IntKind.wrap IntKind.i64
  (List.getD
    (r2Take b
        [(4 : Int), (3 : Int), (1 : Int), (2 : Int), (2 : Int), (2 : Int), (2 : Int), (5 : Int), (1 : Int), (2 : Int),
          (1 : Int)]).fst
    (Int.toNat (5 : Int)) (0 : Int))), (IntKind.wrap IntKind.i64
  (List.getD
    (r2Take b
        [(4 : Int), (3 : Int), (1 : Int), (2 : Int), (2 : Int), (2 : Int), (2 : Int), (5 : Int), (1 : Int), (2 : Int),
          (1 : Int)]).fst
    (Int.toNat (6 : Int)) (0 : Int)))⟩, (List.getD
  (r2Take b
      [(4 : Int), (3 : Int), (1 : Int), (2 : Int), (2 : Int), (2 : Int), (2 : Int), (5 : Int), (1 : Int), (2 : Int),
        (1 : Int)]).fst
  (Int.toNat (7 : Int)) (0 : Int)), (IntKind.wrap IntKind.i64
  (List.getD
    (r2Take b
        [(4 : Int), (3 : Int), (1 : Int), (2 : Int), (2 : Int), (2 : Int), (2 : Int), (5 : Int), (1 : Int), (2 : Int),
          (1 : Int)]).fst
    (Int.toNat (8 : Int)) (0 : Int))), (IntKind.wrap IntKind.i64
  (List.getD
    (r2Take b
        [(4 : Int), (3 : Int), (1 : Int), (2 : Int), (2 : Int), (2 : Int), (2 : Int), (5 : Int), (1 : Int), (2 : Int),
          (1 : Int)]).fst
    (Int.toNat (9 : Int)) (0 : Int))), (IntKind.wrap IntKind.i64
  (List.getD
    (r2Take b
        [(4 : Int), (3 : Int), (1 : Int), (2 : Int), (2 : Int), (2 : Int), (2 : Int), (5 : Int), (1 : Int), (2 : Int),
          (1 : Int)]).fst
    (Int.toNat (10 : Int)) (0 : Int)))⟩ : ConnParams), (0 : Int)))))
def r17Decode.dec (cs : List (AV El)) : Option ((List Int)) := popS 5 cs fun a0 c0 => popE c0 a0
def r17Decode.enc (x : (List Int)) : List (AV El) := [.sl 5 (x : List (El 5)) false]
theorem r17Decode.dec_ok : ∀ cs x, r17Decode.dec cs = some x → Imp (S := S) cs (r17Decode.enc x) := by
  intro cs x h
  unfold r17Decode.dec at h
  obtain ⟨a0, c0, h0, k0⟩ := popS_some (S := S) (t := 5) h
  obtain ⟨rfl, rfl⟩ := popE_some (S := S) h0
  exact (k0 _ (.refl _))
def r17Decode.nf (b : List Int) (K : AV El → List (AObj El) → Prop) : Prop := Ob (List.length b ≤ (140737488355328 : Nat) ∧
  List.length
      [(4 : Int), (3 : Int), (1 : Int), (2 : Int), (2 : Int), (2 : Int), (2 : Int), (5 : Int), (1 : Int), (2 : Int),
        (1 : Int)] ≤
    (1099511627776 : Nat)) ∧ (cond ((r2Take b
        [(4 : Int), (3 : Int), (1 : Int), (2 : Int), (2 : Int), (2 : Int), (2 : Int), (5 : Int), (1 : Int), (2 : Int),
          (1 : Int)]).snd.snd !=
  (0 : Int)) (K (.tup [.agg [.v (.int .u32 ((0 : Int))), .v (.int .u32 ((0 : Int))), .v (.int .i64 ((0 : Int))), .v (.int .i64 ((0 : Int))), .v (.int .i64 ((0 : Int))), .v (.int .i64 ((0 : Int))), .v (.int .i64 ((0 : Int))), .v (.int .u64 ((0 : Int))), .v (.int .i64 ((0 : Int))), .v (.int .i64 ((0 : Int))), .v (.int .i64 ((0 : Int)))], .v (.int .i64 ((r2Take b
      [(4 : Int), (3 : Int), (1 : Int), (2 : Int), (2 : Int), (2 : Int), (2 : Int), (5 : Int), (1 : Int), (2 : Int),
        (1 : Int)]).snd.snd))]) [.cells [.v (.int .u32 ((0 : Int))), .v (.int .u32 ((0 : Int))), .v (.int .i64 ((0 : Int))), .v (.int .i64 ((0 : Int))), .v (.int .i64 ((0 : Int))), .v (.int .i64 ((0 : Int))), .v (.int .i64 ((0 : Int))), .v (.int .u64 ((0 : Int))), .v (.int .i64 ((0 : Int))), .v (.int .i64 ((0 : Int))), .v (.int .i64 ((0 : Int)))], .frozen 3 ([(4 : Int), (3 : Int), (1 : Int), (2 : Int), (2 : Int), (2 : Int), (2 : Int), (5 : Int), (1 : Int), (2 : Int),
  (1 : Int)]), .row 25 ((r2Take b
    [(4 : Int), (3 : Int), (1 : Int), (2 : Int), (2 : Int), (2 : Int), (2 : Int), (5 : Int), (1 : Int), (2 : Int),
      (1 : Int)]).fst), .row 5 ((r2Take b
      [(4 : Int), (3 : Int), (1 : Int), (2 : Int), (2 : Int), (2 : Int), (2 : Int), (5 : Int), (1 : Int), (2 : Int),
        (1 : Int)]).snd.fst)]) ((List.length
    (r2Take b
          [(4 : Int), (3 : Int), (1 : Int), (2 : Int), (2 : Int), (2 : Int), (2 : Int), (5 : Int), (1 : Int), (2 : Int),
            (1 : Int)]).snd.fst ≤
  (9223372036854775807 : Nat)) → (cond (decide
  ((0 : Int) <
    (↑(List.length
          (r2Take b
                [(4 : Int), (3 : Int), (1 : Int), (2 : Int), (2 : Int), (2 : Int), (2 : Int), (5 : Int), (1 : Int),
                  (2 : Int), (1 : Int)]).snd.fst) :
      Int))) (K (.tup [.agg [.v (.int .u32 ((0 : Int))), .v (.int .u32 ((0 : Int))), .v (.int .i64 ((0 : Int))), .v (.int .i64 ((0 : Int))), .v (.int .i64 ((0 : Int))), .v (.int .i64 ((0 : Int))), .v (.int .i64 ((0 : Int))), .v (.int .u64 ((0 : Int))), .v (.int .i64 ((0 : Int))), .v (.int .i64 ((0 : Int))), .v (.int .i64 ((0 : Int)))], .v (.int .i64 ((2 : Int)))]) [.cells [.v (.int .u32 ((0 : Int))), .v (.int .u32 ((0 : Int))), .v (.int .i64 ((0 : Int))), .v (.int .i64 ((0 : Int))), .v (.int .i64 ((0 : Int))), .v (.int .i64 ((0 : Int))), .v (.int .i64 ((0 : Int))), .v (.int .u64 ((0 : Int))), .v (.int .i64 ((0 : Int))), .v (.int .i64 ((0 : Int))), .v (.int .i64 ((0 : Int)))], .frozen 3 ([(4 : Int), (3 : Int), (1 : Int), (2 : Int), (2 : Int), (2 : Int), (2 : Int), (5 : Int), (1 : Int), (2 : Int),
  (1 : Int)]), .row 25 ((r2Take b
    [(4 : Int), (3 : Int), (1 : Int), (2 : Int), (2 : Int), (2 : Int), (2 : Int), (5 : Int), (1 : Int), (2 : Int),
      (1 : Int)]).fst), .row 5 ((r2Take b
      [(4 : Int), (3 : Int), (1 : Int), (2 : Int), (2 : Int), (2 : Int), (2 : Int), (5 : Int), (1 : Int), (2 : Int),
        (1 : Int)]).snd.fst)]) (Ob ((0 : Int) ≤ (2 : Int) ∧
  (2 : Int) <
    (↑(List.length
          (r2Take b
              [(4 : Int), (3 : Int), (1 : Int), (2 : Int), (2 : Int), (2 : Int), (2 : Int), (5 : Int), (1 : Int),
                (2 : Int), (1 : Int)]).fst) :
      Int)) ∧ (Ob (Int.toNat (2 : Int) <
  List.length
    (r2Take b
        [(4 : Int), (3 : Int), (1 : Int), (2 : Int), (2 : Int), (2 : Int), (2 : Int), (5 : Int), (1 : Int), (2 : Int),
          (1 : Int)]).fst) ∧ (Ob ((0 : Int) ≤ (3 : Int) ∧
  (3 : Int) <
    (↑(List.length
          (r2Take b
              [(4 : Int), (3 : Int), (1 : Int), (2 : Int), (2 : Int), (2 : Int), (2 : Int), (5 : Int), (1 : Int),
                (2 : Int), (1 : Int)]).fst) :
      Int)) ∧ (Ob (Int.toNat (3 : Int) <
  List.length
    (r2Take b
        [(4 : Int), (3 : Int), (1 : Int), (2 : Int), (2 : Int), (2 : Int), (2 : Int), (5 : Int), (1 : Int), (2 : Int),
          (1 : Int)]).fst) ∧ (Ob ((0 : Int) ≤ (4 : Int) ∧
  (4 : Int) <
    (↑(List.length
          (r2Take b
              [(4 : Int), (3 : Int), (1 : Int), (2 : Int), (2 : Int), (2 : Int), (2 : Int), (5 : Int), (1 : Int),
                (2 : Int), (1 : Int)]).fst) :
      Int)) ∧ (Ob (Int.toNat (4 : Int) <
  List.length
    (r2Take b
        [(4 : Int), (3 : Int), (1 : Int), (2 : Int), (2 : Int), (2 : Int), (2 : Int), (5 : Int), (1 : Int), (2 : Int),
          (1 : Int)]).fst) ∧ (Ob ((0 : Int) ≤ (5 : Int) ∧
  (5 : Int) <
    (↑(List.length
          (r2Take b
              [(4 : Int), (3 : Int), (1 : Int), (2 : Int), (2 : Int), (2 : Int), (2 : Int), (5 : Int), (1 : Int),
                (2 : Int), (1 : Int)]).fst) :
      Int)) ∧ (Ob (Int.toNat (5 : Int) <
  List.length
    (r2Take b
        [(4 : Int), (3 : Int), (1 : Int), (2 : Int), (2 : Int), (2 : Int), (2 : Int), (5 : Int), (1 : Int), (2 : Int),
          (1 : Int)]).fst) ∧ (Ob ((0 : Int) ≤ (6 : Int) ∧
  (6 : Int) <
    (↑(List.length
          (r2Take b
              [(4 : Int), (3 : Int), (1 : Int), (2 : Int), (2 : Int), (2 : Int), (2 : Int), (5 : Int), (1 : Int),
                (2 : Int), (1 : Int)]).fst) :
      Int)) ∧ (Ob (Int.toNat (6 : Int) <
  List.length
    (r2Take b
        [(4 : Int), (3 : Int), (1 : Int), (2 : Int), (2 : Int), (2 : Int), (2 : Int), (5 : Int), (1 : Int), (2 : Int),
          (1 : Int)]).fst) ∧ (Ob ((0 : Int) ≤ (0 : Int) ∧
  (0 : Int) <
    (↑(List.length
          (r2Take b
              [(4 : Int), (3 : Int), (1 : Int), (2 : Int), (2 : Int), (2 : Int), (2 : Int), (5 : Int), (1 : Int),
                (2 : Int), (1 : Int)]).fst) :
      Int)) ∧ (Ob (Int.toNat (0 : Int) <
  List.length
    (r2Take b
        [(4 : Int), (3 : Int), (1 : Int), (2 : Int), (2 : Int), (2 : Int), (2 : Int), (5 : Int), (1 : Int), (2 : Int),
          (1 : Int)]).fst) ∧ (Ob ((0 : Int) ≤ (1 : Int) ∧
  (1 : Int) <
    (↑(List.length
          (r2Take b
              [(4 : Int), (3 : Int), (1 : Int), (2 : Int), (2 : Int), (2 : Int), (2 : Int), (5 : Int), (1 : Int),
                (2 : Int), (1 : Int)]).fst) :
      Int)) ∧ (Ob (Int.toNat (1 : Int) <
  List.length
    (r2Take b
        [(4 : Int), (3 : Int), (1 : Int), (2 : Int), (2 : Int), (2 : Int), (2 : Int), (5 : Int), (1 : Int), (2 : Int),
          (1 : Int)]).fst) ∧ (Ob ((0 : Int) ≤ (7 : Int) ∧
  (7 : Int) <
    (↑(List.length
          (r2Take b
              [(4 : Int), (3 : Int), (1 : Int), (2 : Int), (2 : Int), (2 : Int), (2 : Int), (5 : Int), (1 : Int),
                (2 : Int), (1 : Int)]).fst) :
      Int)) ∧ (Ob (Int.toNat (7 : Int) <
  List.length
    (r2Take b
        [(4 : Int), (3 : Int), (1 : Int), (2 : Int), (2 : Int), (2 : Int), (2 : Int), (5 : Int), (1 : Int), (2 : Int),
          (1 : Int)]).fst) ∧ (Ob ((0 : Int) ≤ (8 : Int) ∧
  (8 : Int) <
    (↑(List.length
          (r2Take b
              [(4 : Int), (3 : Int), (1 : Int), (2 : Int), (2 : Int), (2 : Int), (2 : Int), (5 : Int), (1 : Int),
                (2 : Int), (1 : Int)]).fst) :
      Int)) ∧ (Ob (Int.toNat (8 : Int) <
  List.length
    (r2Take b
        [(4 : Int), (3 : Int), (1 : Int), (2 : Int), (2 : Int), (2 : Int), (2 : Int), (5 : Int), (1 : Int), (2 : Int),
          (1 : Int)]).fst) ∧ (Ob ((0 : Int) ≤ (9 : Int) ∧
  (9 : Int) <
    (↑(List.length
          (r2Take b
              [(4 : Int), (3 : Int), (1 : Int), (2 : Int), (2 : Int), (2 : Int), (2 : Int), (5 : Int), (1 : Int),
                (2 : Int), (1 : Int)]).fst) :
      Int)) ∧ (Ob (Int.toNat (9 : Int) <
  List.length
    (r2Take b
        [(4 : Int), (3 : Int), (1 : Int), (2 : Int), (2 : Int), (2 : Int), (2 : Int), (5 : Int), (1 : Int), (2 : Int),
          (1 : Int)]).fst) ∧ (Ob ((0 : Int) ≤ (10 : Int) ∧
  (10 : Int) <
    (↑(List.length
          (r2Take b
              [(4 : Int), (3 : Int), (1 : Int), (2 : Int), (2 : Int), (2 : Int), (2 : Int), (5 : Int), (1 : Int),
                (2 : Int), (1 : Int)]).fst) :
      Int)) ∧ (Ob (Int.toNat (10 : Int) <
  List.length
    (r2Take b
        [(4 : Int), (3 : Int), (1 : Int), (2 : Int), (2 : Int), (2 : Int), (2 : Int), (5 : Int), (1 : Int), (2 : Int),
          (1 : Int)]).fst) ∧ (cond (r17Check
    {
      Access :=
        IntKind.wrap IntKind.u32
          (List.getD
            (r2Take b
                [(4 : Int), (3 : Int), (1 : Int), (2 : Int), (2 : Int), (2 : Int), (2 : Int), (5 : Int), (1 : Int),
                  (2 : Int), (1 : Int)]).fst
            (Int.toNat (0 : Int)) (0 : Int)),
      Init :=
        IntKind.wrap IntKind.u32
          (List.getD
            (r2Take b
                [(4 : Int), (3 : Int), (1 : Int), (2 : Int), (2 : Int), (2 : Int), (2 : Int), (5 : Int), (1 : Int),
                  (2 : Int), (1 : Int)]).fst
            (Int.toNat (1 : Int)) (0 : Int)),
      Update :=
        {
          WinSize :=
            IntKind.wrap IntKind.i64
              (List.getD
                (r2Take b
                    [(4 : Int), (3 : Int), (1 : Int), (2 : Int), (2 : Int), (2 : Int), (2 : Int), (5 : Int), (1 : Int),
                      (2 : Int), (1 : Int)]).fst
                (Int.toNat (2 : Int)) (0 : Int)),
          WinOffset :=
            IntKind.wrap IntKind.i64
              (List.getD
                (r2Take b
                    [(4 : Int), (3 : Int), (1 : Int), (2 : Int), (2 : Int), (2 : Int), (2 : Int), (5 : Int), (1 : Int),
                      (2 : Int), (1 : Int)]).fst
                (Int.toNat (3 : Int)) (0 : Int)),
          Interval :=
            IntKind.wrap IntKind.i64
              (List.getD
                (r2Take b
                    [(4 : Int), (3 : Int), (1 : Int), (2 : Int), (2 : Int), (2 : Int), (2 : Int), (5 : Int), (1 : Int),
                      (2 : Int), (1 : Int)]).fst
                (Int.toNat (4 : Int)) (0 : Int)),
          Latency :=
            IntKind.wrap IntKind.i64
              (List.getD
                (r2Take b
                    [(4 : Int), (3 : Int), (1 : Int), (2 : Int), (2 : Int), (2 : Int), (2 : Int), (5 : Int), (1 : Int),
                      (2 : Int), (1 : Int)]).fst
                (Int.toNat (5 : Int)) (0 : Int)),
          Timeout :=
            IntKind.wrap IntKind.i64
              (List.getD
                (r2Take b
                    [(4 : Int), (3 : Int), (1 : Int), (2 : Int), (2 : Int), (2 : Int), (2 : Int), (5 : Int), (1 : Int),
                      (2 : Int), (1 : Int)]).fst
                (Int.toNat (6 : Int)) (0 : Int)) },
      Map :=
        List.getD
          (r2Take b
              [(4 : Int), (3 : Int), (1 : Int), (2 : Int), (2 : Int), (2 : Int), (2 : Int), (5 : Int), (1 : Int),
                (2 : Int), (1 : Int)]).fst
          (Int.toNat (7 : Int)) (0 : Int),
      Hop :=
        IntKind.wrap IntKind.i64
          (List.getD
            (r2Take b
                [(4 : Int), (3 : Int), (1 : Int), (2 : Int), (2 : Int), (2 : Int), (2 : Int), (5 : Int), (1 : Int),
                  (2 : Int), (1 : Int)]).fst
            (Int.toNat (8 : Int)) (0 : Int)),
      PPM :=
        IntKind.wrap IntKind.i64
          (List.getD
            (r2Take b
                [(4 : Int), (3 : Int), (1 : Int), (2 : Int), (2 : Int), (2 : Int), (2 : Int), (5 : Int), (1 : Int),
                  (2 : Int), (1 : Int)]).fst
            (Int.toNat (9 : Int)) (0 : Int)),
      Algorithm :=
        IntKind.wrap IntKind.i64
          (List.getD
            (r2Take b
                [(4 : Int), (3 : Int), (1 : Int), (2 : Int), (2 : Int), (2 : Int), (2 : Int), (5 : Int), (1 : Int),
                  (2 : Int), (1 : Int)]).fst
            (Int.toNat (10 : Int)) (0 : Int)) } !=
  (0 : Int)) (K (.tup [.agg [.v (.int .u32 ((0 : Int))), .v (.int .u32 ((0 : Int))), .v (.int .i64 ((0 : Int))), .v (.int .i64 ((0 : Int))), .v (.int .i64 ((0 : Int))), .v (.int .i64 ((0 : Int))), .v (.int .i64 ((0 : Int))), .v (.int .u64 ((0 : Int))), .v (.int .i64 ((0 : Int))), .v (.int .i64 ((0 : Int))), .v (.int .i64 ((0 : Int)))], .v (.int .i64 (r17Check
  {
    Access :=
      IntKind.wrap IntKind.u32
        (List.getD
          (r2Take b
              [(4 : Int), (3 : Int), (1 : Int), (2 : Int), (2 : Int), (2 : Int), (2 : Int), (5 : Int), (1 : Int),
                (2 : Int), (1 : Int)]).fst
          (Int.toNat (0 : Int)) (0 : Int)),
    Init :=
      IntKind.wrap IntKind.u32
        (List.getD
          (r2Take b
              [(4 : Int), (3 : Int), (1 : Int), (2 : Int), (2 : Int), (2 : Int), (2 : Int), (5 : Int), (1 : Int),
                (2 : Int), (1 : Int)]).fst
          (Int.toNat (1 : Int)) (0 : Int)),
    Update :=
      {
        WinSize :=
          IntKind.wrap IntKind.i64
            (List.getD
              (r2Take b
                  [(4 : Int), (3 : Int), (1 : Int), (2 : Int), (2 : Int), (2 : Int), (2 : Int), (5 : Int), (1 : Int),
                    (2 : Int), (1 : Int)]).fst
              (Int.toNat (2 : Int)) (0 : Int)),
        WinOffset :=
          IntKind.wrap IntKind.i64
            (List.getD
              (r2Take b
                  [(4 : Int), (3 : Int), (1 : Int), (2 : Int), (2 : Int), (2 : Int), (2 : Int), (5 : Int), (1 : Int),
                    (2 : Int), (1 : Int)]).fst
              (Int.toNat (3 : Int)) (0 : Int)),
        Interval :=
          IntKind.wrap IntKind.i64
            (List.getD
              (r2Take b
                  [(4 : Int), (3 : Int), (1 : Int), (2 : Int), (2 : Int), (2 : Int), (2 : Int), (5 : Int), (1 : Int),
                    (2 : Int), (1 : Int)]).fst
              (Int.toNat (4 : Int)) (0 : Int)),
        Latency :=
          IntKind.wrap IntKind.i64
            (List.getD
              (r2Take b
                  [(4 : Int), (3 : Int), (1 : Int), (2 : Int), (2 : Int), (2 : Int), (2 : Int), (5 : Int), (1 : Int),
                    (2 : Int), (1 : Int)]).fst
              (Int.toNat (5 : Int)) (0 : Int)),
        Timeout :=
          IntKind.wrap IntKind.i64
            (List.getD
              (r2Take b
                  [(4 : Int), (3 : Int), (1 : Int), (2 : Int), (2 : Int), (2 : Int), (2 : Int), (5 : Int), (1 : Int),
                    (2 : Int), (1 : Int)]).fst
              (Int.toNat (6 : Int)) (0 : Int)) },
    Map :=
      List.getD
        (r2Take b
            [(4 : Int), (3 : Int), (1 : Int), (2 : Int), (2 : Int), (2 : Int), (2 : Int), (5 : Int), (1 : Int),
              (2 : Int), (1 : Int)]).fst
        (Int.toNat (7 : Int)) (0 : Int),
    Hop :=
      IntKind.wrap IntKind.i64
        (List.getD
          (r2Take b
              [(4 : Int), (3 : Int), (1 : Int), (2 : Int), (2 : Int), (2 : Int), (2 : Int), (5 : Int), (1 : Int),
                (2 : Int), (1 : Int)]).fst
          (Int.toNat (8 : Int)) (0 : Int)),
    PPM :=
      IntKind.wrap IntKind.i64
        (List.getD
          (r2Take b
              [(4 : Int), (3 : Int), (1 : Int), (2 : Int), (2 : Int), (2 : Int), (2 : Int), (5 : Int), (1 : Int),
                (2 : Int), (1 : Int)]).fst
          (Int.toNat (9 : Int)) (0 : Int)),
    Algorithm :=
      IntKind.wrap IntKind.i64
        (List.getD
          (r2Take b
              [(4 : Int), (3 : Int), (1 : Int), (2 : Int), (2 : Int), (2 : Int), (2 : Int), (5 : Int), (1 : Int),
                (2 : Int), (1 : Int)]).fst
          (Int.toNat (10 : Int)) (0 : Int)) }))]) [.cells [.v (.int .u32 ((0 : Int))), .v (.int .u32 ((0 : Int))), .v (.int .i64 ((0 : Int))), .v (.int .i64 ((0 : Int))), .v (.int .i64 ((0 : Int))), .v (.int .i64 ((0 : Int))), .v (.int .i64 ((0 : Int))), .v (.int .u64 ((0 : Int))), .v (.int .i64 ((0 : Int))), .v (.int .i64 ((0 : Int))), .v (.int .i64 ((0 : Int)))], .frozen 3 ([(4 : Int), (3 : Int), (1 : Int), (2 : Int), (2 : Int), (2 : Int), (2 : Int), (5 : Int), (1 : Int), (2 : Int),
  (1 : Int)]), .row 25 ((r2Take b
    [(4 : Int), (3 : Int), (1 : Int), (2 : Int), (2 : Int), (2 : Int), (2 : Int), (5 : Int), (1 : Int), (2 : Int),
      (1 : Int)]).fst), .row 5 ((r2Take b
      [(4 : Int), (3 : Int), (1 : Int), (2 : Int), (2 : Int), (2 : Int), (2 : Int), (5 : Int), (1 : Int), (2 : Int),
        (1 : Int)]).snd.fst), .cells [.v (.int .i64 (IntKind.wrap IntKind.i64
  (List.getD
    (r2Take b
        [(4 : Int), (3 : Int), (1 : Int), (2 : Int), (2 : Int), (2 : Int), (2 : Int), (5 : Int), (1 : Int), (2 : Int),
          (1 : Int)]).fst
    (Int.toNat (2 : Int)) (0 : Int)))), .v (.int .i64 (IntKind.wrap IntKind.i64
  (List.getD
    (r2Take b
        [(4 : Int), (3 : Int), (1 : Int), (2 : Int), (2 : Int), (2 : Int), (2 : Int), (5 : Int), (1 : Int), (2 : Int),
          (1 : Int)]).fst
    (Int.toNat (3 : Int)) (0 : Int)))), .v (.int .i64 (IntKind.wrap IntKind.i64
  (List.getD
    (r2Take b
        [(4 : Int), (3 : Int), (1 : Int), (2 : Int), (2 : Int), (2 : Int), (2 : Int), (5 : Int), (1 : Int), (2 : Int),
          (1 : Int)]).fst
    (Int.toNat (4 : Int)) (0 : Int)))), .v (.int .i64 (IntKind.wrap IntKind.i64
  (List.getD
    (r2Take b
        [(4 : Int), (3 : Int), (1 : Int), (2 : Int), (2 : Int), (2 : Int), (2 : Int), (5 : Int), (1 : Int), (2 : Int),
          (1 : Int)]).fst
    (Int.toNat (5 : Int)) (0 : Int)))), .v (.int .i64 (IntKind.wrap IntKind.i64
  (List.getD
    (r2Take b
        [(4 : Int), (3 : Int), (1 : Int), (2 : Int), (2 : Int), (2 : Int), (2 : Int), (5 : Int), (1 : Int), (2 : Int),
          (1 : Int)]).fst
    (Int.toNat (6 : Int)) (0 : Int))))], .cells [.v (.int .u32 (IntKind.wrap IntKind.u32
  (List.getD
    (r2Take b
        [(4 : Int), (3 : Int), (1 : Int), (2 : Int), (2 : Int), (2 : Int), (2 : Int), (5 : Int), (1 : Int), (2 : Int),
          (1 : Int)]).fst
    (Int.toNat (0 : Int)) (0 : Int)))), .v (.int .u32 (IntKind.wrap IntKind.u32
  (List.getD
    (r2Take b
        [(4 : Int), (3 : Int), (1 : Int), (2 : Int), (2 : Int), (2 : Int), (2 : Int), (5 : Int), (1 : Int), (2 : Int),
          (1 : Int)]).fst
    (Int.toNat (1 : Int)) (0 : Int)))), .v (.int .i64 (IntKind.wrap IntKind.i64
  (List.getD
    (r2Take b
        [(4 : Int), (3 : Int), (1 : Int), (2 : Int), (2 : Int), (2 : Int), (2 : Int), (5 : Int), (1 : Int), (2 : Int),
          (1 : Int)]).fst
    (Int.toNat (2 : Int)) (0 : Int)))), .v (.int .i64 (IntKind.wrap IntKind.i64
  (List.getD
    (r2Take b
        [(4 : Int), (3 : Int), (1 : Int), (2 : Int), (2 : Int), (2 : Int), (2 : Int), (5 : Int), (1 : Int), (2 : Int),
          (1 : Int)]).fst
    (Int.toNat (3 : Int)) (0 : Int)))), .v (.int .i64 (IntKind.wrap IntKind.i64
  (List.getD
    (r2Take b
        [(4 : Int), (3 : Int), (1 : Int), (2 : Int), (2 : Int), (2 : Int), (2 : Int), (5 : Int), (1 : Int), (2 : Int),
          (1 : Int)]).fst
    (Int.toNat (4 : Int)) (0 : Int)))), .v (.int .i64 (IntKind.wrap IntKind.i64
  (List.getD
    (r2Take b
        [(4 : Int), (3 : Int), (1 : Int), (2 : Int), (2 : Int), (2 : Int), (2 : Int), (5 : Int), (1 : Int), (2 : Int),
          (1 : Int)]).fst
    (Int.toNat (5 : Int)) (0 : Int)))), .v (.int .i64 (IntKind.wrap IntKind.i64
  (List.getD
    (r2Take b
        [(4 : Int), (3 : Int), (1 : Int), (2 : Int), (2 : Int), (2 : Int), (2 : Int), (5 : Int), (1 : Int), (2 : Int),
          (1 : Int)]).fst
    (Int.toNat (6 : Int)) (0 : Int)))), .v (.int .u64 (List.getD
  (r2Take b
      [(4 : Int), (3 : Int), (1 : Int), (2 : Int), (2 : Int), (2 : Int), (2 : Int), (5 : Int), (1 : Int), (2 : Int),
        (1 : Int)]).fst
  (Int.toNat (7 : Int)) (0 : Int))), .v (.int .i64 (IntKind.wrap IntKind.i64
  (List.getD
    (r2Take b
        [(4 : Int), (3 : Int), (1 : Int), (2 : Int), (2 : Int), (2 : Int), (2 : Int), (5 : Int), (1 : Int), (2 : Int),
          (1 : Int)]).fst
    (Int.toNat (8 : Int)) (0 : Int)))), .v (.int .i64 (IntKind.wrap IntKind.i64
  (List.getD
    (r2Take b
        [(4 : Int), (3 : Int), (1 : Int), (2 : Int), (2 : Int), (2 : Int), (2 : Int), (5 : Int), (1 : Int), (2 : Int),
          (1 : Int)]).fst
    (Int.toNat (9 : Int)) (0 : Int)))), .v (.int .i64 (IntKind.wrap IntKind.i64
  (List.getD
    (r2Take b
        [(4 : Int), (3 : Int), (1 : Int), (2 : Int), (2 : Int), (2 : Int), (2 : Int), (5 : Int), (1 : Int), (2 : Int),
          (1 : Int)]).fst
    (Int.toNat (10 : Int)) (0 : Int))))]]) (K (.tup [.agg [.v (.int .u32 (IntKind.wrap IntKind.u32
  (List.getD
    (r2Take b
        [(4 : Int), (3 : Int), (1 : Int), (2 : Int), (2 : Int), (2 : Int), (2 : Int), (5 : Int), (1 : Int), (2 : Int),
          (1 : Int)]).fst
    (Int.toNat (0 : Int)) (0 : Int)))), .v (.int .u32 (IntKind.wrap IntKind.u32
  (List.getD
    (r2Take b
        [(4 : Int), (3 : Int), (1 : Int), (2 : Int), (2 : Int), (2 : Int), (2 : Int), (5 : Int), (1 : Int), (2 : Int),
          (1 : Int)]).fst
    (Int.toNat (1 : Int)) (0 : Int)))), .v (.int .i64 (IntKind.wrap IntKind.i64
  (List.getD
    (r2Take b
        [(4 : Int), (3 : Int), (1 : Int), (2 : Int), (2 : Int), (2 : Int), (2 : Int), (5 : Int), (1 : Int), (2 : Int),
          (1 : Int)]).fst
    (Int.toNat (2 : Int)) (0 : Int)))), .v (.int .i64 (IntKind.wrap IntKind.i64
  (List.getD
    (r2Take b
        [(4 : Int), (3 : Int), (1 : Int), (2 : Int), (2 : Int), (2 : Int), (2 : Int), (5 : Int), (1 : Int), (2 : Int),
          (1 : Int)]).fst
    (Int.toNat (3 : Int)) (0 : Int)))), .v (.int .i64 (IntKind.wrap IntKind.i64
  (List.getD
    (r2Take b
        [(4 : Int), (3 : Int), (1 : Int), (2 : Int), (2 : Int), (2 : Int), (2 : Int), (5 : Int), (1 : Int), (2 : Int),
          (1 : Int)]).fst
    (Int.toNat (4 : Int)) (0 : Int)))), .v (.int .i64 (IntKind.wrap IntKind.i64
  (List.getD
    (r2Take b
        [(4 : Int), (3 : Int), (1 : Int), (2 : Int), (2 : Int), (2 : Int), (2 : Int), (5 : Int), (1 : Int), (2 : Int),
          (1 : Int)]).fst
    (Int.toNat (5 : Int)) (0 : Int)))), .v (.int .i64 (IntKind.wrap IntKind.i64
  (List.getD
    (r2Take b
        [(4 : Int), (3 : Int), (1 : Int), (2 : Int), (2 : Int), (2 : Int), (2 : Int), (5 : Int), (1 : Int), (2 : Int),
          (1 : Int)]).fst
    (Int.toNat (6 : Int)) (0 : Int)))), .v (.int .u64 (List.getD
  (r2Take b
      [(4 : Int), (3 : Int), (1 : Int), (2 : Int), (2 : Int), (2 : Int), (2 : Int), (5 : Int), (1 : Int), (2 : Int),
        (1 : Int)]).fst
  (Int.toNat (7 : Int)) (0 : Int))), .v (.int .i64 (IntKind.wrap IntKind.i64
  (List.getD
    (r2Take b
        [(4 : Int), (3 : Int), (1 : Int), (2 : Int), (2 : Int), (2 : Int), (2 : Int), (5 : Int), (1 : Int), (2 : Int),
          (1 : Int)]).fst
    (Int.toNat (8 : Int)) (0 : Int)))), .v (.int .i64 (IntKind.wrap IntKind.i64
  (List.getD
    (r2Take b
        [(4 : Int), (3 : Int), (1 : Int), (2 : Int), (2 : Int), (2 : Int), (2 : Int), (5 : Int), (1 : Int), (2 : Int),
          (1 : Int)]).fst
    (Int.toNat (9 : Int)) (0 : Int)))), .v (.int .i64 (IntKind.wrap IntKind.i64
  (List.getD
    (r2Take b
        [(4 : Int), (3 : Int), (1 : Int), (2 : Int), (2 : Int), (2 : Int), (2 : Int), (5 : Int), (1 : Int), (2 : Int),
          (1 : Int)]).fst
    (Int.toNat (10 : Int)) (0 : Int))))], .v (.int .i64 ((0 : Int)))]) [.cells [.v (.int .u32 (IntKind.wrap IntKind.u32
  (List.getD
    (r2Take b
        [(4 : Int), (3 : Int), (1 : Int), (2 : Int), (2 : Int), (2 : Int), (2 : Int), (5 : Int), (1 : Int), (2 : Int),
          (1 : Int)]).fst
    (Int.toNat (0 : Int)) (0 : Int)))), .v (.int .u32 (IntKind.wrap IntKind.u32
  (List.getD
    (r2Take b
        [(4 : Int), (3 : Int), (1 : Int), (2 : Int), (2 : Int), (2 : Int), (2 : Int), (5 : Int), (1 : Int), (2 : Int),
          (1 : Int)]).fst
    (Int.toNat (1 : Int)) (0 : Int)))), .v (.int .i64 (IntKind.wrap IntKind.i64
  (List.getD
    (r2Take b
        [(4 : Int), (3 : Int), (1 : Int), (2 : Int), (2 : Int), (2 : Int), (2 : Int), (5 : Int), (1 : Int), (2 : Int),
          (1 : Int)]).fst
    (Int.toNat (2 : Int)) (0 : Int)))), .v (.int .i64 (IntKind.wrap IntKind.i64
  (List.getD
    (r2Take b
        [(4 : Int), (3 : Int), (1 : Int), (2 : Int), (2 : Int), (2 : Int), (2 : Int), (5 : Int), (1 : Int), (2 : Int),
          (1 : Int)]).fst
    (Int.toNat (3 : Int)) (0 : Int)))), .v (.int .i64 (IntKind.wrap IntKind.i64
  (List.getD
    (r2Take b
        [(4 : Int), (3 : Int), (1 : Int), (2 : Int), (2 : Int), (2 : Int), (2 : Int), (5 : Int), (1 : Int), (2 : Int),
          (1 : Int)]).fst
    (Int.toNat (4 : Int)) (0 : Int)))), .v (.int .i64 (IntKind.wrap IntKind.i64
  (List.getD
    (r2Take b
        [(4 : Int), (3 : Int), (1 : Int), (2 : Int), (2 : Int), (2 : Int), (2 : Int), (5 : Int), (1 : Int), (2 : Int),
          (1 : Int)]).fst
    (Int.toNat (5 : Int)) (0 : Int)))), .v (.int .i64 (IntKind.wrap IntKind.i64
  (List.getD
    (r2Take b
        [(4 : Int), (3 : Int), (1 : Int), (2 : Int), (2 : Int), (2 : Int), (2 : Int), (5 : Int), (1 : Int), (2 : Int),
          (1 : Int)]).fst
    (Int.toNat (6 : Int)) (0 : Int)))), .v (.int .u64 (List.getD
  (r2Take b
      [(4 : Int), (3 : Int), (1 : Int), (2 : Int), (2 : Int), (2 : Int), (2 : Int), (5 : Int), (1 : Int), (2 : Int),
        (1 : Int)]).fst
  (Int.toNat (7 : Int)) (0 : Int))), .v (.int .i64 (IntKind.wrap IntKind.i64
  (List.getD
    (r2Take b
        [(4 : Int), (3 : Int), (1 : Int), (2 : Int), (2 : Int), (2 : Int), (2 : Int), (5 : Int), (1 : Int), (2 : Int),
          (1 : Int)]).fst
    (Int.toNat (8 : Int)) (0 : Int)))), .v (.int .i64 (IntKind.wrap IntKind.i64
  (List.getD
    (r2Take b
        [(4 : Int), (3 : Int), (1 : Int), (2 : Int), (2 : Int), (2 : Int), (2 : Int), (5 : Int), (1 : Int), (2 : Int),
          (1 : Int)]).fst
    (Int.toNat (9 : Int)) (0 : Int)))), .v (.int .i64 (IntKind.wrap IntKind.i64
  (List.getD
    (r2Take b
        [(4 : Int), (3 : Int), (1 : Int), (2 : Int), (2 : Int), (2 : Int), (2 : Int), (5 : Int), (1 : Int), (2 : Int),
          (1 : Int)]).fst
    (Int.toNat (10 : Int)) (0 : Int))))], .frozen 3 ([(4 : Int), (3 : Int), (1 : Int), (2 : Int), (2 : Int), (2 : Int), (2 : Int), (5 : Int), (1 : Int), (2 : Int),
  (1 : Int)]), .row 25 ((r2Take b
    [(4 : Int), (3 : Int), (1 : Int), (2 : Int), (2 : Int), (2 : Int), (2 : Int), (5 : Int), (1 : Int), (2 : Int),
      (1 : Int)]).fst), .row 5 ((r2Take b
      [(4 : Int), (3 : Int), (1 : Int), (2 : Int), (2 : Int), (2 : Int), (2 : Int), (5 : Int), (1 : Int), (2 : Int),
        (1 : Int)]).snd.fst), .cells [.v (.int .i64 (IntKind.wrap IntKind.i64
  (List.getD
    (r2Take b
        [(4 : Int), (3 : Int), (1 : Int), (2 : Int), (2 : Int), (2 : Int), (2 : Int), (5 : Int), (1 : Int), (2 : Int),
          (1 : Int)]).fst
    (Int.toNat (2 : Int)) (0 : Int)))), .v (.int .i64 (IntKind.wrap IntKind.i64
  (List.getD
    (r2Take b
        [(4 : Int), (3 : Int), (1 : Int), (2 : Int), (2 : Int), (2 : Int), (2 : Int), (5 : Int), (1 : Int), (2 : Int),
          (1 : Int)]).fst
    (Int.toNat (3 : Int)) (0 : Int)))), .v (.int .i64 (IntKind.wrap IntKind.i64
  (List.getD
    (r2Take b
        [(4 : Int), (3 : Int), (1 : Int), (2 : Int), (2 : Int), (2 : Int), (2 : Int), (5 : Int), (1 : Int), (2 : Int),
          (1 : Int)]).fst
    (Int.toNat (4 : Int)) (0 : Int)))), .v (.int .i64 (IntKind.wrap IntKind.i64
  (List.getD
    (r2Take b
        [(4 : Int), (3 : Int), (1 : Int), (2 : Int), (2 : Int), (2 : Int), (2 : Int), (5 : Int), (1 : Int), (2 : Int),
          (1 : Int)]).fst
    (Int.toNat (5 : Int)) (0 : Int)))), .v (.int .i64 (IntKind.wrap IntKind.i64
  (List.getD
    (r2Take b
        [(4 : Int), (3 : Int), (1 : Int), (2 : Int), (2 : Int), (2 : Int), (2 : Int), (5 : Int), (1 : Int), (2 : Int),
          (1 : Int)]).fst
    (Int.toNat (6 : Int)) (0 : Int))))], .cells [.v (.int .u32 (IntKind.wrap IntKind.u32
  (List.getD
    (r2Take b
        [(4 : Int), (3 : Int), (1 : Int), (2 : Int), (2 : Int), (2 : Int), (2 : Int), (5 : Int), (1 : Int), (2 : Int),
          (1 : Int)]).fst
    (Int.toNat (0 : Int)) (0 : Int)))), .v (.int .u32 (IntKind.wrap IntKind.u32
  (List.getD
    (r2Take b
        [(4 : Int), (3 : Int), (1 : Int), (2 : Int), (2 : Int), (2 : Int), (2 : Int), (5 : Int), (1 : Int), (2 : Int),
          (1 : Int)]).fst
    (Int.toNat (1 : Int)) (0 : Int)))), .v (.int .i64 (IntKind.wrap IntKind.i64
  (List.getD
    (r2Take b
        [(4 : Int), (3 : Int), (1 : Int), (2 : Int), (2 : Int), (2 : Int), (2 : Int), (5 : Int), (1 : Int), (2 : Int),
          (1 : Int)]).fst
    (Int.toNat (2 : Int)) (0 : Int)))), .v (.int .i64 (IntKind.wrap IntKind.i64
  (List.getD
    (r2Take b
        [(4 : Int), (3 : Int), (1 : Int), (2 : Int), (2 : Int), (2 : Int), (2 : Int), (5 : Int), (1 : Int), (2 : Int),
          (1 : Int)]).fst
    (Int.toNat (3 : Int)) (0 : Int)))), .v (.int .i64 (IntKind.wrap IntKind.i64
  (List.getD
    (r2Take b
        [(4 : Int), (3 : Int), (1 : Int), (2 : Int), (2 : Int), (2 : Int), (2 : Int), (5 : Int), (1 : Int), (2 : Int),
          (1 : Int)]).fst
    (Int.toNat (4 : Int)) (0 : Int)))), .v (.int .i64 (IntKind.wrap IntKind.i64
  (List.getD
    (r2Take b
        [(4 : Int), (3 : Int), (1 : Int), (2 : Int), (2 : Int), (2 : Int), (2 : Int), (5 : Int), (1 : Int), (2 : Int),
          (1 : Int)]).fst
    (Int.toNat (5 : Int)) (0 : Int)))), .v (.int .i64 (IntKind.wrap IntKind.i64
  (List.getD
    (r2Take b
        [(4 : Int), (3 : Int), (1 : Int), (2 : Int), (2 : Int), (2 : Int), (2 : Int), (5 : Int), (1 : Int), (2 : Int),
          (1 : Int)]).fst
    (Int.toNat (6 : Int)) (0 : Int)))), .v (.int .u64 (List.getD
  (r2Take b
      [(4 : Int), (3 : Int), (1 : Int), (2 : Int), (2 : Int), (2 : Int), (2 : Int), (5 : Int), (1 : Int), (2 : Int),
        (1 : Int)]).fst
  (Int.toNat (7 : Int)) (0 : Int))), .v (.int .i64 (IntKind.wrap IntKind.i64
  (List.getD
    (r2Take b
        [(4 : Int), (3 : Int), (1 : Int), (2 : Int), (2 : Int), (2 : Int), (2 : Int), (5 : Int), (1 : Int), (2 : Int),
          (1 : Int)]).fst
    (Int.toNat (8 : Int)) (0 : Int)))), .v (.int .i64 (IntKind.wrap IntKind.i64
  (List.getD
    (r2Take b
        [(4 : Int), (3 : Int), (1 : Int), (2 : Int), (2 : Int), (2 : Int), (2 : Int), (5 : Int), (1 : Int), (2 : Int),
          (1 : Int)]).fst
    (Int.toNat (9 : Int)) (0 : Int)))), .v (.int .i64 (IntKind.wrap IntKind.i64
  (List.getD
    (r2Take b
        [(4 : Int), (3 : Int), (1 : Int), (2 : Int), (2 : Int), (2 : Int), (2 : Int), (5 : Int), (1 : Int), (2 : Int),
          (1 : Int)]).fst
    (Int.toNat (10 : Int)) (0 : Int))))]])))))))))))))))))))))))))))
theorem r17Decode.nf_ok (b : List Int) (K : AV El → List (AObj El) → Prop) : evFun (mkCx Try.prog S tab_r2Same 0) 4 19 [.sl 5 (b : List (El 5)) false] [] K = r17Decode.nf b K := by kernel_rfl
theorem r17Decode.key (b : List Int) (hp : b.length ≤ 140737488355328) (v : ConnParams × Int) (hv : v = r17Decode b) : r17Decode.nf b (fun r' H' => Gives r' H' (r17Decode.res v) (r17Decode.news v)) := by
  unfold r17Decode at hv
  unfold r17Decode.nf
  refine ⟨⟨by (try clear hv); (try clear q1 q2); (try clear hk); (try simp only [decide_eq_true_eq, decide_eq_false_iff_not, Bool.not_eq_true, Bool.not_eq_false, Bool.and_eq_true, Bool.or_eq_true, Bool.not_not, cond_and, cond_or, List.length_append, List.length_cons, List.length_nil] at *); (first | omega | (intros; (try simp only [Bool.not_not, cond_and, cond_or, Bool.and_eq_true, decide_eq_true_eq] at *); ((try simp only [bne_eq_false_iff_eq] at *); have hl := oTake_len b [4, 3, 1, 2, 2, 2, 2, 5, 1, 2, 1] (by decide) (by assumption); simp only [List.length_cons, List.length_nil] at hl; omega)) | (intros; (try simp only [Bool.not_not, cond_and, cond_or, Bool.and_eq_true, decide_eq_true_eq] at *); ((try simp only [bne_eq_false_iff_eq] at *); have hl := r2Take_len b [4, 3, 1, 2, 2, 2, 2, 5, 1, 2, 1] (by decide) (by assumption); simp only [List.length_cons, List.length_nil] at hl; omega)) | (intros; (try simp only [Bool.not_not, cond_and, cond_or, Bool.and_eq_true, decide_eq_true_eq] at *); (simp [r17fields]; done)) | (intros; omega) | (intros; simp only [sized_iff, r17fields, Bool.not_not, cond_and, cond_or, Bool.and_eq_true, decide_eq_true_eq] at *; omega) | (intros; simp_all [sized_iff, r17fields, Bool.not_not]; done))⟩, ?_⟩
  refine by_cond (fun hb hv => ?_) (fun hb hv => ?_) hv
  · subst hv; exact And.intro (by kernel_rfl) (by kernel_rfl)
  · intro hlen
    refine by_cond (fun hb hv => ?_) (fun hb hv => ?_) hv
    · subst hv; exact And.intro (by kernel_rfl) (by kernel_rfl)
    · refine ⟨⟨by (try clear hv); (try clear q1 q2); (try clear hk); (try simp only [decide_eq_true_eq, decide_eq_false_iff_not, Bool.not_eq_true, Bool.not_eq_false, Bool.and_eq_true, Bool.or_eq_true, Bool.not_not, cond_and, cond_or, List.length_append, List.length_cons, List.length_nil] at *); (first | omega | (intros; (try simp only [Bool.not_not, cond_and, cond_or, Bool.and_eq_true, decide_eq_true_eq] at *); ((try simp only [bne_eq_false_iff_eq] at *); have hl := oTake_len b [4, 3, 1, 2, 2, 2, 2, 5, 1, 2, 1] (by decide) (by assumption); simp only [List.length_cons, List.length_nil] at hl; omega)) | (intros; (try simp only [Bool.not_not, cond_and, cond_or, Bool.and_eq_true, decide_eq_true_eq] at *); ((try simp only [bne_eq_false_iff_eq] at *); have hl := r2Take_len b [4, 3, 1, 2, 2, 2, 2, 5, 1, 2, 1] (by decide) (by assumption); simp only [List.length_cons, List.length_nil] at hl; omega)) | (intros; (try simp only [Bool.not_not, cond_and, cond_or, Bool.and_eq_true, decide_eq_true_eq] at *); (simp [r17fields]; done)) | (intros; omega) | (intros; simp only [sized_iff, r17fields, Bool.not_not, cond_and, cond_or, Bool.and_eq_true, decide_eq_true_eq] at *; omega) | (intros; simp_all [sized_iff, r17fields, Bool.not_not]; done))⟩, ?_⟩
      refine ⟨⟨by (try clear hv); (try clear q1 q2); (try clear hk); (try simp only [decide_eq_true_eq, decide_eq_false_iff_not, Bool.not_eq_true, Bool.not_eq_false, Bool.and_eq_true, Bool.or_eq_true, Bool.not_not, cond_and, cond_or, List.length_append, List.length_cons, List.length_nil] at *); (first | omega | (intros; (try simp only [Bool.not_not, cond_and, cond_or, Bool.and_eq_true, decide_eq_true_eq] at *); ((try simp only [bne_eq_false_iff_eq] at *); have hl := oTake_len b [4, 3, 1, 2, 2, 2, 2, 5, 1, 2, 1] (by decide) (by assumption); simp only [List.length_cons, List.length_nil] at hl; omega)) | (intros; (try simp only [Bool.not_not, cond_and, cond_or, Bool.and_eq_true, decide_eq_true_eq] at *); ((try simp only [bne_eq_false_iff_eq] at *); have hl := r2Take_len b [4, 3, 1, 2, 2, 2, 2, 5, 1, 2, 1] (by decide) (by assumption); simp only [List.length_cons, List.length_nil] at hl; omega)) | (intros; (try simp only [Bool.not_not, cond_and, cond_or, Bool.and_eq_true, decide_eq_true_eq] at *); (simp [r17fields]; done)) | (intros; omega) | (intros; simp only [sized_iff, r17fields, Bool.not_not, cond_and, cond_or, Bool.and_eq_true, decide_eq_true_eq] at *; omega) | (intros; simp_all [sized_iff, r17fields, Bool.not_not]; done))⟩, ?_⟩
      refine ⟨⟨by (try clear hv); (try clear q1 q2); (try clear hk); (try simp only [decide_eq_true_eq, decide_eq_false_iff_not, Bool.not_eq_true, Bool.not_eq_false, Bool.and_eq_true, Bool.or_eq_true, Bool.not_not, cond_and, cond_or, List.length_append, List.length_cons, List.length_nil] at *); (first | omega | (intros; (try simp only [Bool.not_not, cond_and, cond_or, Bool.and_eq_true, decide_eq_true_eq] at *); ((try simp only [bne_eq_false_iff_eq] at *); have hl := oTake_len b [4, 3, 1, 2, 2, 2, 2, 5, 1, 2, 1] (by decide) (by assumption); simp only [List.length_cons, List.length_nil] at hl; omega)) | (intros; (try simp only [Bool.not_not, cond_and, cond_or, Bool.and_eq_true, decide_eq_true_eq] at *); ((try simp only [bne_eq_false_iff_eq] at *); have hl := r2Take_len b [4, 3, 1, 2, 2, 2, 2, 5, 1, 2, 1] (by decide) (by assumption); simp only [List.length_cons, List.length_nil] at hl; omega)) | (intros; (try simp only [Bool.not_not, cond_and, cond_or, Bool.and_eq_true, decide_eq_true_eq] at *); (simp [r17fields]; done)) | (intros; omega) | (intros; simp only [sized_iff, r17fields, Bool.not_not, cond_and, cond_or, Bool.and_eq_true, decide_eq_true_eq] at *; omega) | (intros; simp_all [sized_iff, r17fields, Bool.not_not]; done))⟩, ?_⟩
      refine ⟨⟨by (try clear hv); (try clear q1 q2); (try clear hk); (try simp only [decide_eq_true_eq, decide_eq_false_iff_not, Bool.not_eq_true, Bool.not_eq_false, Bool.and_eq_true, Bool.or_eq_true, Bool.not_not, cond_and, cond_or, List.length_append, List.length_cons, List.length_nil] at *); (first | omega | (intros; (try simp only [Bool.not_not, cond_and, cond_or, Bool.and_eq_true, decide_eq_true_eq] at *); ((try simp only [bne_eq_false_iff_eq] at *); have hl := oTake_len b [4, 3, 1, 2, 2, 2, 2, 5, 1, 2, 1] (by decide) (by assumption); simp only [List.length_cons, List.length_nil] at hl; omega)) | (intros; (try simp only [Bool.not_not, cond_and, cond_or, Bool.and_eq_true, decide_eq_true_eq] at *); ((try simp only [bne_eq_false_iff_eq] at *); have hl := r2Take_len b [4, 3, 1, 2, 2, 2, 2, 5, 1, 2, 1] (by decide) (by assumption); simp only [List.length_cons, List.length_nil] at hl; omega)) | (intros; (try simp only [Bool.not_not, cond_and, cond_or, Bool.and_eq_true, decide_eq_true_eq] at *); (simp [r17fields]; done)) | (intros; omega) | (intros; simp only [sized_iff, r17fields, Bool.not_not, cond_and, cond_or, Bool.and_eq_true, decide_eq_true_eq] at *; omega) | (intros; simp_all [sized_iff, r17fields, Bool.not_not]; done))⟩, ?_⟩
      refine ⟨⟨by (try clear hv); (try clear q1 q2); (try clear hk); (try simp only [decide_eq_true_eq, decide_eq_false_iff_not, Bool.not_eq_true, Bool.not_eq_false, Bool.and_eq_true, Bool.or_eq_true, Bool.not_not, cond_and, cond_or, List.length_append, List.length_cons, List.length_nil] at *); (first | omega | (intros; (try simp only [Bool.not_not, cond_and, cond_or, Bool.and_eq_true, decide_eq_true_eq] at *); ((try simp only [bne_eq_false_iff_eq] at *); have hl := oTake_len b [4, 3, 1, 2, 2, 2, 2, 5, 1, 2, 1] (by decide) (by assumption); simp only [List.length_cons, List.length_nil] at hl; omega)) | (intros; (try simp only [Bool.not_not, cond_and, cond_or, Bool.and_eq_true, decide_eq_true_eq] at *); ((try simp only [bne_eq_false_iff_eq] at *); have hl := r2Take_len b [4, 3, 1, 2, 2, 2, 2, 5, 1, 2, 1] (by decide) (by assumption); simp only [List.length_cons, List.length_nil] at hl; omega)) | (intros; (try simp only [Bool.not_not, cond_and, cond_or, Bool.and_eq_true, decide_eq_true_eq] at *); (simp [r17fields]; done)) | (intros; omega) | (intros; simp only [sized_iff, r17fields, Bool.not_not, cond_and, cond_or, Bool.and_eq_true, decide_eq_true_eq] at *; omega) | (intros; simp_all [sized_iff, r17fields, Bool.not_not]; done))⟩, ?_⟩
      refine ⟨⟨by (try clear hv); (try clear q1 q2); (try clear hk); (try simp only [decide_eq_true_eq, decide_eq_false_iff_not, Bool.not_eq_true, Bool.not_eq_false, Bool.and_eq_true, Bool.or_eq_true, Bool.not_not, cond_and, cond_or, List.length_append, List.length_cons, List.length_nil] at *); (first | omega | (intros; (try simp only [Bool.not_not, cond_and, cond_or, Bool.and_eq_true, decide_eq_true_eq] at *); ((try simp only [bne_eq_false_iff_eq] at *); have hl := oTake_len b [4, 3, 1, 2, 2, 2, 2, 5, 1, 2, 1] (by decide) (by assumption); simp only [List.length_cons, List.length_nil] at hl; omega)) | (intros; (try simp only [Bool.not_not, cond_and, cond_or, Bool.and_eq_true, decide_eq_true_eq] at *); ((try simp only [bne_eq_false_iff_eq] at *); have hl := r2Take_len b [4, 3, 1, 2, 2, 2, 2, 5, 1, 2, 1] (by decide) (by assumption); simp only [List.length_cons, List.length_nil] at hl; omega)) | (intros; (try simp only [Bool.not_not, cond_and, cond_or, Bool.and_eq_true, decide_eq_true_eq] at *); (simp [r17fields]; done)) | (intros; omega) | (intros; simp only [sized_iff, r17fields, Bool.not_not, cond_and, cond_or, Bool.and_eq_true, decide_eq_true_eq] at *; omega) | (intros; simp_all [sized_iff, r17fields, Bool.not_not]; done))⟩, ?_⟩
      refine ⟨⟨by (try clear hv); (try clear q1 q2); (try clear hk); (try simp only [decide_eq_true_eq, decide_eq_false_iff_not, Bool.not_eq_true, Bool.not_eq_false, Bool.and_eq_true, Bool.or_eq_true, Bool.not_not, cond_and, cond_or, List.length_append, List.length_cons, List.length_nil] at *); (first | omega | (intros; (try simp only [Bool.not_not, cond_and, cond_or, Bool.and_eq_true, decide_eq_true_eq] at *); ((try simp only [bne_eq_false_iff_eq] at *); have hl := oTake_len b [4, 3, 1, 2, 2, 2, 2, 5, 1, 2, 1] (by decide) (by assumption); simp only [List.length_cons, List.length_nil] at hl; omega)) | (intros; (try simp only [Bool.not_not, cond_and, cond_or, Bool.and_eq_true, decide_eq_true_eq] at *); ((try simp only [bne_eq_false_iff_eq] at *); have hl := r2Take_len b [4, 3, 1, 2, 2, 2, 2, 5, 1, 2, 1] (by decide) (by assumption); simp only [List.length_cons, List.length_nil] at hl; omega)) | (intros; (try simp only [Bool.not_not, cond_and, cond_or, Bool.and_eq_true, decide_eq_true_eq] at *); (simp [r17fields]; done)) | (intros; omega) | (intros; simp only [sized_iff, r17fields, Bool.not_not, cond_and, cond_or, Bool.and_eq_true, decide_eq_true_eq] at *; omega) | (intros; simp_all [sized_iff, r17fields, Bool.not_not]; done))⟩, ?_⟩
      refine ⟨⟨by (try clear hv); (try clear q1 q2); (try clear hk); (try simp only [decide_eq_true_eq, decide_eq_false_iff_not, Bool.not_eq_true, Bool.not_eq_false, Bool.and_eq_true, Bool.or_eq_true, Bool.not_not, cond_and, cond_or, List.length_append, List.length_cons, List.length_nil] at *); (first | omega | (intros; (try simp only [Bool.not_not, cond_and, cond_or, Bool.and_eq_true, decide_eq_true_eq] at *); ((try simp only [bne_eq_false_iff_eq] at *); have hl := oTake_len b [4, 3, 1, 2, 2, 2, 2, 5, 1, 2, 1] (by decide) (by assumption); simp only [List.length_cons, List.length_nil] at hl; omega)) | (intros; (try simp only [Bool.not_not, cond_and, cond_or, Bool.and_eq_true, decide_eq_true_eq] at *); ((try simp only [bne_eq_false_iff_eq] at *); have hl := r2Take_len b [4, 3, 1, 2, 2, 2, 2, 5, 1, 2, 1] (by decide) (by assumption); simp only [List.length_cons, List.length_nil] at hl; omega)) | (intros; (try simp only [Bool.not_not, cond_and, cond_or, Bool.and_eq_true, decide_eq_true_eq] at *); (simp [r17fields]; done)) | (intros; omega) | (intros; simp only [sized_iff, r17fields, Bool.not_not, cond_and, cond_or, Bool.and_eq_true, decide_eq_true_eq] at *; omega) | (intros; simp_all [sized_iff, r17fields, Bool.not_not]; done))⟩, ?_⟩
      refine ⟨⟨by (try clear hv); (try clear q1 q2); (try clear hk); (try simp only [decide_eq_true_eq, decide_eq_false_iff_not, Bool.not_eq_true, Bool.not_eq_false, Bool.and_eq_true, Bool.or_eq_true, Bool.not_not, cond_and, cond_or, List.length_append, List.length_cons, List.length_nil] at *); (first | omega | (intros; (try simp only [Bool.not_not, cond_and, cond_or, Bool.and_eq_true, decide_eq_true_eq] at *); ((try simp only [bne_eq_false_iff_eq] at *); have hl := oTake_len b [4, 3, 1, 2, 2, 2, 2, 5, 1, 2, 1] (by decide) (by assumption); simp only [List.length_cons, List.length_nil] at hl; omega)) | (intros; (try simp only [Bool.not_not, cond_and, cond_or, Bool.and_eq_true, decide_eq_true_eq] at *); ((try simp only [bne_eq_false_iff_eq] at *); have hl := r2Take_len b [4, 3, 1, 2, 2, 2, 2, 5, 1, 2, 1] (by decide) (by assumption); simp only [List.length_cons, List.length_nil] at hl; omega)) | (intros; (try simp only [Bool.not_not, cond_and, cond_or, Bool.and_eq_true, decide_eq_true_eq] at *); (simp [r17fields]; done)) | (intros; omega) | (intros; simp only [sized_iff, r17fields, Bool.not_not, cond_and, cond_or, Bool.and_eq_true, decide_eq_true_eq] at *; omega) | (intros; simp_all [sized_iff, r17fields, Bool.not_not]; done))⟩, ?_⟩
      refine ⟨⟨by (try clear hv); (try clear q1 q2); (try clear hk); (try simp only [decide_eq_true_eq, decide_eq_false_iff_not, Bool.not_eq_true, Bool.not_eq_false, Bool.and_eq_true, Bool.or_eq_true, Bool.not_not, cond_and, cond_or, List.length_append, List.length_cons, List.length_nil] at *); (first | omega | (intros; (try simp only [Bool.not_not, cond_and, cond_or, Bool.and_eq_true, decide_eq_true_eq] at *); ((try simp only [bne_eq_false_iff_eq] at *); have hl := oTake_len b [4, 3, 1, 2, 2, 2, 2, 5, 1, 2, 1] (by decide) (by assumption); simp only [List.length_cons, List.length_nil] at hl; omega)) | (intros; (try simp only [Bool.not_not, cond_and, cond_or, Bool.and_eq_true, decide_eq_true_eq] at *); ((try simp only [bne_eq_false_iff_eq] at *); have hl := r2Take_len b [4, 3, 1, 2, 2, 2, 2, 5, 1, 2, 1] (by decide) (by assumption); simp only [List.length_cons, List.length_nil] at hl; omega)) | (intros; (try simp only [Bool.not_not, cond_and, cond_or, Bool.and_eq_true, decide_eq_true_eq] at *); (simp [r17fields]; done)) | (intros; omega) | (intros; simp only [sized_iff, r17fields, Bool.not_not, cond_and, cond_or, Bool.and_eq_true, decide_eq_true_eq] at *; omega) | (intros; simp_all [sized_iff, r17fields, Bool.not_not]; done))⟩, ?_⟩
      refine ⟨⟨by (try clear hv); (try clear q1 q2); (try clear hk); (try simp only [decide_eq_true_eq, decide_eq_false_iff_not, Bool.not_eq_true, Bool.not_eq_false, Bool.and_eq_true, Bool.or_eq_true, Bool.not_not, cond_and, cond_or, List.length_append, List.length_cons, List.length_nil] at *); (first | omega | (intros; (try simp only [Bool.not_not, cond_and, cond_or, Bool.and_eq_true, decide_eq_true_eq] at *); ((try simp only [bne_eq_false_iff_eq] at *); have hl := oTake_len b [4, 3, 1, 2, 2, 2, 2, 5, 1, 2, 1] (by decide) (by assumption); simp only [List.length_cons, List.length_nil] at hl; omega)) | (intros; (try simp only [Bool.not_not, cond_and, cond_or, Bool.and_eq_true, decide_eq_true_eq] at *); ((try simp only [bne_eq_false_iff_eq] at *); have hl := r2Take_len b [4, 3, 1, 2, 2, 2, 2, 5, 1, 2, 1] (by decide) (by assumption); simp only [List.length_cons, List.length_nil] at hl; omega)) | (intros; (try simp only [Bool.not_not, cond_and, cond_or, Bool.and_eq_true, decide_eq_true_eq] at *); (simp [r17fields]; done)) | (intros; omega) | (intros; simp only [sized_iff, r17fields, Bool.not_not, cond_and, cond_or, Bool.and_eq_true, decide_eq_true_eq] at *; omega) | (intros; simp_all [sized_iff, r17fields, Bool.not_not]; done))⟩, ?_⟩
      refine ⟨⟨by (try clear hv); (try clear q1 q2); (try clear hk); (try simp only [decide_eq_true_eq, decide_eq_false_iff_not, Bool.not_eq_true, Bool.not_eq_false, Bool.and_eq_true, Bool.or_eq_true, Bool.not_not, cond_and, cond_or, List.length_append, List.length_cons, List.length_nil] at *); (first | omega | (intros; (try simp only [Bool.not_not, cond_and, cond_or, Bool.and_eq_true, decide_eq_true_eq] at *); ((try simp only [bne_eq_false_iff_eq] at *); have hl := oTake_len b [4, 3, 1, 2, 2, 2, 2, 5, 1, 2, 1] (by decide) (by assumption); simp only [List.length_cons, List.length_nil] at hl; omega)) | (intros; (try simp only [Bool.not_not, cond_and, cond_or, Bool.and_eq_true, decide_eq_true_eq] at *); ((try simp only [bne_eq_false_iff_eq] at *); have hl := r2Take_len b [4, 3, 1, 2, 2, 2, 2, 5, 1, 2, 1] (by decide) (by assumption); simp only [List.length_cons, List.length_nil] at hl; omega)) | (intros; (try simp only [Bool.not_not, cond_and, cond_or, Bool.and_eq_true, decide_eq_true_eq] at *); (simp [r17fields]; done)) | (intros; omega) | (intros; simp only [sized_iff, r17fields, Bool.not_not, cond_and, cond_or, Bool.and_eq_true, decide_eq_true_eq] at *; omega) | (intros; simp_all [sized_iff, r17fields, Bool.not_not]; done))⟩, ?_⟩
      refine ⟨⟨by (try clear hv); (try clear q1 q2); (try clear hk); (try simp only [decide_eq_true_eq, decide_eq_false_iff_not, Bool.not_eq_true, Bool.not_eq_false, Bool.and_eq_true, Bool.or_eq_true, Bool.not_not, cond_and, cond_or, List.length_append, List.length_cons, List.length_nil] at *); (first | omega | (intros; (try simp only [Bool.not_not, cond_and, cond_or, Bool.and_eq_true, decide_eq_true_eq] at *); ((try simp only [bne_eq_false_iff_eq] at *); have hl := oTake_len b [4, 3, 1, 2, 2, 2, 2, 5, 1, 2, 1] (by decide) (by assumption); simp only [List.length_cons, List.length_nil] at hl; omega)) | (intros; (try simp only [Bool.not_not, cond_and, cond_or, Bool.and_eq_true, decide_eq_true_eq] at *); ((try simp only [bne_eq_false_iff_eq] at *); have hl := r2Take_len b [4, 3, 1, 2, 2, 2, 2, 5, 1, 2, 1] (by decide) (by assumption); simp only [List.length_cons, List.length_nil] at hl; omega)) | (intros; (try simp only [Bool.not_not, cond_and, cond_or, Bool.and_eq_true, decide_eq_true_eq] at *); (simp [r17fields]; done)) | (intros; omega) | (intros; simp only [sized_iff, r17fields, Bool.not_not, cond_and, cond_or, Bool.and_eq_true, decide_eq_true_eq] at *; omega) | (intros; simp_all [sized_iff, r17fields, Bool.not_not]; done))⟩, ?_⟩
      refine ⟨⟨by (try clear hv); (try clear q1 q2); (try clear hk); (try simp only [decide_eq_true_eq, decide_eq_false_iff_not, Bool.not_eq_true, Bool.not_eq_false, Bool.and_eq_true, Bool.or_eq_true, Bool.not_not, cond_and, cond_or, List.length_append, List.length_cons, List.length_nil] at *); (first | omega | (intros; (try simp only [Bool.not_not, cond_and, cond_or, Bool.and_eq_true, decide_eq_true_eq] at *); ((try simp only [bne_eq_false_iff_eq] at *); have hl := oTake_len b [4, 3, 1, 2, 2, 2, 2, 5, 1, 2, 1] (by decide) (by assumption); simp only [List.length_cons, List.length_nil] at hl; omega)) | (intros; (try simp only [Bool.not_not, cond_and, cond_or, Bool.and_eq_true, decide_eq_true_eq] at *); ((try simp only [bne_eq_false_iff_eq] at *); have hl := r2Take_len b [4, 3, 1, 2, 2, 2, 2, 5, 1, 2, 1] (by decide) (by assumption); simp only [List.length_cons, List.length_nil] at hl; omega)) | (intros; (try simp only [Bool.not_not, cond_and, cond_or, Bool.and_eq_true, decide_eq_true_eq] at *); (simp [r17fields]; done)) | (intros; omega) | (intros; simp only [sized_iff, r17fields, Bool.not_not, cond_and, cond_or, Bool.and_eq_true, decide_eq_true_eq] at *; omega) | (intros; simp_all [sized_iff, r17fields, Bool.not_not]; done))⟩, ?_⟩
      refine ⟨⟨by (try clear hv); (try clear q1 q2); (try clear hk); (try simp only [decide_eq_true_eq, decide_eq_false_iff_not, Bool.not_eq_true, Bool.not_eq_false, Bool.and_eq_true, Bool.or_eq_true, Bool.not_not, cond_and, cond_or, List.length_append, List.length_cons, List.length_nil] at *); (first | omega | (intros; (try simp only [Bool.not_not, cond_and, cond_or, Bool.and_eq_true, decide_eq_true_eq] at *); ((try simp only [bne_eq_false_iff_eq] at *); have hl := oTake_len b [4, 3, 1, 2, 2, 2, 2, 5, 1, 2, 1] (by decide) (by assumption); simp only [List.length_cons, List.length_nil] at hl; omega)) | (intros; (try simp only [Bool.not_not, cond_and, cond_or, Bool.and_eq_true, decide_eq_true_eq] at *); ((try simp only [bne_eq_false_iff_eq] at *); have hl := r2Take_len b [4, 3, 1, 2, 2, 2, 2, 5, 1, 2, 1] (by decide) (by assumption); simp only [List.length_cons, List.length_nil] at hl; omega)) | (intros; (try simp only [Bool.not_not, cond_and, cond_or, Bool.and_eq_true, decide_eq_true_eq] at *); (simp [r17fields]; done)) | (intros; omega) | (intros; simp only [sized_iff, r17fields, Bool.not_not, cond_and, cond_or, Bool.and_eq_true, decide_eq_true_eq] at *; omega) | (intros; simp_all [sized_iff, r17fields, Bool.not_not]; done))⟩, ?_⟩
      refine ⟨⟨by (try clear hv); (try clear q1 q2); (try clear hk); (try simp only [decide_eq_true_eq, decide_eq_false_iff_not, Bool.not_eq_true, Bool.not_eq_false, Bool.and_eq_true, Bool.or_eq_true, Bool.not_not, cond_and, cond_or, List.length_append, List.length_cons, List.length_nil] at *); (first | omega | (intros; (try simp only [Bool.not_not, cond_and, cond_or, Bool.and_eq_true, decide_eq_true_eq] at *); ((try simp only [bne_eq_false_iff_eq] at *); have hl := oTake_len b [4, 3, 1, 2, 2, 2, 2, 5, 1, 2, 1] (by decide) (by assumption); simp only [List.length_cons, List.length_nil] at hl; omega)) | (intros; (try simp only [Bool.not_not, cond_and, cond_or, Bool.and_eq_true, decide_eq_true_eq] at *); ((try simp only [bne_eq_false_iff_eq] at *); have hl := r2Take_len b [4, 3, 1, 2, 2, 2, 2, 5, 1, 2, 1] (by decide) (by assumption); simp only [List.length_cons, List.length_nil] at hl; omega)) | (intros; (try simp only [Bool.not_not, cond_and, cond_or, Bool.and_eq_true, decide_eq_true_eq] at *); (simp [r17fields]; done)) | (intros; omega) | (intros; simp only [sized_iff, r17fields, Bool.not_not, cond_and, cond_or, Bool.and_eq_true, decide_eq_true_eq] at *; omega) | (intros; simp_all [sized_iff, r17fields, Bool.not_not]; done))⟩, ?_⟩
      refine ⟨⟨by (try clear hv); (try clear q1 q2); (try clear hk); (try simp only [decide_eq_true_eq, decide_eq_false_iff_not, Bool.not_eq_true, Bool.not_eq_false, Bool.and_eq_true, Bool.or_eq_true, Bool.not_not, cond_and, cond_or, List.length_append, List.length_cons, List.length_nil] at *); (first | omega | (intros; (try simp only [Bool.not_not, cond_and, cond_or, Bool.and_eq_true, decide_eq_true_eq] at *); ((try simp only [bne_eq_false_iff_eq] at *); have hl := oTake_len b [4, 3, 1, 2, 2, 2, 2, 5, 1, 2, 1] (by decide) (by assumption); simp only [List.length_cons, List.length_nil] at hl; omega)) | (intros; (try simp only [Bool.not_not, cond_and, cond_or, Bool.and_eq_true, decide_eq_true_eq] at *); ((try simp only [bne_eq_false_iff_eq] at *); have hl := r2Take_len b [4, 3, 1, 2, 2, 2, 2, 5, 1, 2, 1] (by decide) (by assumption); simp only [List.length_cons, List.length_nil] at hl; omega)) | (intros; (try simp only [Bool.not_not, cond_and, cond_or, Bool.and_eq_true, decide_eq_true_eq] at *); (simp [r17fields]; done)) | (intros; omega) | (intros; simp only [sized_iff, r17fields, Bool.not_not, cond_and, cond_or, Bool.and_eq_true, decide_eq_true_eq] at *; omega) | (intros; simp_all [sized_iff, r17fields, Bool.not_not]; done))⟩, ?_⟩
      refine ⟨⟨by (try clear hv); (try clear q1 q2); (try clear hk); (try simp only [decide_eq_true_eq, decide_eq_false_iff_not, Bool.not_eq_true, Bool.not_eq_false, Bool.and_eq_true, Bool.or_eq_true, Bool.not_not, cond_and, cond_or, List.length_append, List.length_cons, List.length_nil] at *); (first | omega | (intros; (try simp only [Bool.not_not, cond_and, cond_or, Bool.and_eq_true, decide_eq_true_eq] at *); ((try simp only [bne_eq_false_iff_eq] at *); have hl := oTake_len b [4, 3, 1, 2, 2, 2, 2, 5, 1, 2, 1] (by decide) (by assumption); simp only [List.length_cons, List.length_nil] at hl; omega)) | (intros; (try simp only [Bool.not_not, cond_and, cond_or, Bool.and_eq_true, decide_eq_true_eq] at *); ((try simp only [bne_eq_false_iff_eq] at *); have hl := r2Take_len b [4, 3, 1, 2, 2, 2, 2, 5, 1, 2, 1] (by decide) (by assumption); simp only [List.length_cons, List.length_nil] at hl; omega)) | (intros; (try simp only [Bool.not_not, cond_and, cond_or, Bool.and_eq_true, decide_eq_true_eq] at *); (simp [r17fields]; done)) | (intros; omega) | (intros; simp only [sized_iff, r17fields, Bool.not_not, cond_and, cond_or, Bool.and_eq_true, decide_eq_true_eq] at *; omega) | (intros; simp_all [sized_iff, r17fields, Bool.not_not]; done))⟩, ?_⟩
      refine ⟨⟨by (try clear hv); (try clear q1 q2); (try clear hk); (try simp only [decide_eq_true_eq, decide_eq_false_iff_not, Bool.not_eq_true, Bool.not_eq_false, Bool.and_eq_true, Bool.or_eq_true, Bool.not_not, cond_and, cond_or, List.length_append, List.length_cons, List.length_nil] at *); (first | omega | (intros; (try simp only [Bool.not_not, cond_and, cond_or, Bool.and_eq_true, decide_eq_true_eq] at *); ((try simp only [bne_eq_false_iff_eq] at *); have hl := oTake_len b [4, 3, 1, 2, 2, 2, 2, 5, 1, 2, 1] (by decide) (by assumption); simp only [List.length_cons, List.length_nil] at hl; omega)) | (intros; (try simp only [Bool.not_not, cond_and, cond_or, Bool.and_eq_true, decide_eq_true_eq] at *); ((try simp only [bne_eq_false_iff_eq] at *); have hl := r2Take_len b [4, 3, 1, 2, 2, 2, 2, 5, 1, 2, 1] (by decide) (by assumption); simp only [List.length_cons, List.length_nil] at hl; omega)) | (intros; (try simp only [Bool.not_not, cond_and, cond_or, Bool.and_eq_true, decide_eq_true_eq] at *); (simp [r17fields]; done)) | (intros; omega) | (intros; simp only [sized_iff, r17fields, Bool.not_not, cond_and, cond_or, Bool.and_eq_true, decide_eq_true_eq] at *; omega) | (intros; simp_all [sized_iff, r17fields, Bool.not_not]; done))⟩, ?_⟩
      refine ⟨⟨by (try clear hv); (try clear q1 q2); (try clear hk); (try simp only [decide_eq_true_eq, decide_eq_false_iff_not, Bool.not_eq_true, Bool.not_eq_false, Bool.and_eq_true, Bool.or_eq_true, Bool.not_not, cond_and, cond_or, List.length_append, List.length_cons, List.length_nil] at *); (first | omega | (intros; (try simp only [Bool.not_not, cond_and, cond_or, Bool.and_eq_true, decide_eq_true_eq] at *); ((try simp only [bne_eq_false_iff_eq] at *); have hl := oTake_len b [4, 3, 1, 2, 2, 2, 2, 5, 1, 2, 1] (by decide) (by assumption); simp only [List.length_cons, List.length_nil] at hl; omega)) | (intros; (try simp only [Bool.not_not, cond_and, cond_or, Bool.and_eq_true, decide_eq_true_eq] at *); ((try simp only [bne_eq_false_iff_eq] at *); have hl := r2Take_len b [4, 3, 1, 2, 2, 2, 2, 5, 1, 2, 1] (by decide) (by assumption); simp only [List.length_cons, List.length_nil] at hl; omega)) | (intros; (try simp only [Bool.not_not, cond_and, cond_or, Bool.and_eq_true, decide_eq_true_eq] at *); (simp [r17fields]; done)) | (intros; omega) | (intros; simp only [sized_iff, r17fields, Bool.not_not, cond_and, cond_or, Bool.and_eq_true, decide_eq_true_eq] at *; omega) | (intros; simp_all [sized_iff, r17fields, Bool.not_not]; done))⟩, ?_⟩
      refine ⟨⟨by (try clear hv); (try clear q1 q2); (try clear hk); (try simp only [decide_eq_true_eq, decide_eq_false_iff_not, Bool.not_eq_true, Bool.not_eq_false, Bool.and_eq_true, Bool.or_eq_true, Bool.not_not, cond_and, cond_or, List.length_append, List.length_cons, List.length_nil] at *); (first | omega | (intros; (try simp only [Bool.not_not, cond_and, cond_or, Bool.and_eq_true, decide_eq_true_eq] at *); ((try simp only [bne_eq_false_iff_eq] at *); have hl := oTake_len b [4, 3, 1, 2, 2, 2, 2, 5, 1, 2, 1] (by decide) (by assumption); simp only [List.length_cons, List.length_nil] at hl; omega)) | (intros; (try simp only [Bool.not_not, cond_and, cond_or, Bool.and_eq_true, decide_eq_true_eq] at *); ((try simp only [bne_eq_false_iff_eq] at *); have hl := r2Take_len b [4, 3, 1, 2, 2, 2, 2, 5, 1, 2, 1] (by decide) (by assumption); simp only [List.length_cons, List.length_nil] at hl; omega)) | (intros; (try simp only [Bool.not_not, cond_and, cond_or, Bool.and_eq_true, decide_eq_true_eq] at *); (simp [r17fields]; done)) | (intros; omega) | (intros; simp only [sized_iff, r17fields, Bool.not_not, cond_and, cond_or, Bool.and_eq_true, decide_eq_true_eq] at *; omega) | (intros; simp_all [sized_iff, r17fields, Bool.not_not]; done))⟩, ?_⟩
      refine ⟨⟨by (try clear hv); (try clear q1 q2); (try clear hk); (try simp only [decide_eq_true_eq, decide_eq_false_iff_not, Bool.not_eq_true, Bool.not_eq_false, Bool.and_eq_true, Bool.or_eq_true, Bool.not_not, cond_and, cond_or, List.length_append, List.length_cons, List.length_nil] at *); (first | omega | (intros; (try simp only [Bool.not_not, cond_and, cond_or, Bool.and_eq_true, decide_eq_true_eq] at *); ((try simp only [bne_eq_false_iff_eq] at *); have hl := oTake_len b [4, 3, 1, 2, 2, 2, 2, 5, 1, 2, 1] (by decide) (by assumption); simp only [List.length_cons, List.length_nil] at hl; omega)) | (intros; (try simp only [Bool.not_not, cond_and, cond_or, Bool.and_eq_true, decide_eq_true_eq] at *); ((try simp only [bne_eq_false_iff_eq] at *); have hl := r2Take_len b [4, 3, 1, 2, 2, 2, 2, 5, 1, 2, 1] (by decide) (by assumption); simp only [List.length_cons, List.length_nil] at hl; omega)) | (intros; (try simp only [Bool.not_not, cond_and, cond_or, Bool.and_eq_true, decide_eq_true_eq] at *); (simp [r17fields]; done)) | (intros; omega) | (intros; simp only [sized_iff, r17fields, Bool.not_not, cond_and, cond_or, Bool.and_eq_true, decide_eq_true_eq] at *; omega) | (intros; simp_all [sized_iff, r17fields, Bool.not_not]; done))⟩, ?_⟩
      refine by_cond (fun hb hv => ?_) (fun hb hv => ?_) hv
      · subst hv; exact And.intro (by kernel_rfl) (by kernel_rfl)
      · subst hv; exact And.intro (by kernel_rfl) (by kernel_rfl)
def r17Decode.ct : Ct El := ctOf r17Decode.dec (fun x => [x.length ≤ 140737488355328]) (fun x => r17Decode.res (r17Decode x)) (fun x => r17Decode.news (r17Decode x))
theorem r17Decode.ok : CtOk (mkCx Try.prog S [] 0) 19 r17Decode.ct := ct_mk (C := (mkCx Try.prog S tab_r2Same 0)) (mkCx_ok sigOk mixed tab_r2Same_ok 0) r17Decode.dec_ok (fun x => rfl) 4 (fun x hp => (r17Decode.nf_ok x _).mpr (r17Decode.key x (hp _ (List.mem_singleton.2 rfl)) _ rfl))
def tab_r17Decode : List (FuncId × Ct El) := (19, r17Decode.ct) :: tab_r17Encode
theorem tab_r17Decode_ok : TabOk Try.prog S tab_r17Decode := ⟨r17Decode.ok, by kernel_rfl, tab_r17Encode_ok⟩

end Go.Aw.W
