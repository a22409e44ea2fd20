/- Contracts of the seat (printed by ct.py). -/
import Derived.Test.YtcpcakglnckpeaaDoorW4
set_option linter.unusedVariables false
set_option linter.unusedSimpArgs false
set_option maxRecDepth 20000
set_option maxHeartbeats 1000000
namespace Go.Aw.W
open Go Go.Aw Go.Proofs
attribute [local irreducible] evCode evFun evOps evDs evOne ctxK loopK loopB subC bodyC headS okH roundK

/-! wireless/chanmap.Check -/
def kCheck.res (r : Int) : AV El := .v (.int .i64 (r))
def kCheck.news (r : Int) : List (AObj El) := []
def kCheck (m : Int) : Int := cond (bclrK IntKind.u64 m (137438953471 : Int) != (0 : Int)) ((5 : Int)) (cond (decide (kOnes m < (2 : Int))) ((1 : Int)) ((0 : Int)))
def kCheck.dec (cs : List (AV El)) : Option (Int) := popI .u64 cs fun a0 c0 => popE c0 a0
def kCheck.enc (x : Int) : List (AV El) := [.v (.int .u64 x)]
theorem kCheck.dec_ok : ∀ cs x, kCheck.dec cs = some x → Imp (S := S) cs (kCheck.enc x) := by
  intro cs x h
  unfold kCheck.dec at h
  obtain ⟨a0, c0, rfl, h0⟩ := popI_some (S := S) h
  obtain ⟨rfl, rfl⟩ := popE_some (S := S) h0
  exact (.cons (.refl _))
def kCheck.nf (m : Int) (K : AV El → List (AObj El) → Prop) : Prop := cond (bclrK IntKind.u64 m (137438953471 : Int) != (0 : Int)) (K (.v (.int .i64 ((5 : Int)))) []) (cond (decide (kOnes m < (2 : Int))) (K (.v (.int .i64 ((1 : Int)))) []) (K (.v (.int .i64 ((0 : Int)))) []))
theorem kCheck.nf_ok (m : Int) (K : AV El → List (AObj El) → Prop) : evFun (mkCx Tryd.prog S tab_r2Value 0) 4 75 [.v (.int .u64 m)] [] K = kCheck.nf m K := by kernel_rfl
theorem kCheck.key (m : Int) (v : Int) (hv : v = kCheck m) : kCheck.nf m (fun r' H' => Gives r' H' (kCheck.res v) (kCheck.news v)) := by
  unfold kCheck at hv
  unfold kCheck.nf
  revert hv; refine by_cond2 (fun hb hv => ?_) (fun hb hv => ?_)
  · subst hv; exact And.intro (by kernel_rfl) (by kernel_rfl)
  · revert hv; refine by_cond2 (fun hb hv => ?_) (fun hb hv => ?_)
    · subst hv; exact And.intro (by kernel_rfl) (by kernel_rfl)
    · subst hv; exact And.intro (by kernel_rfl) (by kernel_rfl)
def kCheck.ct : Ct El := ctOf kCheck.dec (fun _ => []) (fun x => kCheck.res (kCheck x)) (fun x => kCheck.news (kCheck x))
theorem kCheck.ok : CtOk (mkCx Tryd.prog S [] 0) 75 kCheck.ct := ct_mk (C := (mkCx Tryd.prog S tab_r2Value 0)) (mkCx_ok sigOk mixed tab_r2Value_ok 0) kCheck.dec_ok (fun x => rfl) 4 (fun x _ => (kCheck.nf_ok x _).mpr (kCheck.key x _ rfl))
def tab_kCheck : List (FuncId × Ct El) := (75, kCheck.ct) :: tab_r2Value
theorem tab_kCheck_ok : TabOk Tryd.prog S tab_kCheck := ⟨kCheck.ok, by kernel_rfl, tab_r2Value_ok⟩

/-! wireless/wirelessref12.List -/
def r12List.res (r : (List Int)) : AV El := .gs 0
def r12List.news (r : (List Int)) : List (AObj El) := [.row 3 (r : List (El 3))]
def r12List.go (m : Int) : Nat → Int → (List Int) → (List Int)
  | 0, _, _ => []
  | n0 + 1, i, out => cond (decide (i ≤ (36 : Int))) (cond (r12Has m i) (r12List.go m n0 (IntKind.wrap IntKind.i64 (i + (1 : Int))) (out ++ [i])) (r12List.go m n0 (IntKind.wrap IntKind.i64 (i + (1 : Int))) (out))) (out)
def r12List.hd (m : Int) (i : Int) (out : List Int) : St El := { lo := 0, slots := [(4, .v (.int .i64 (i))), (3, .gs 0), (0, .v (.int .u64 (m)))], n := 18, objs := [.row 3 (out : List (El 3))] }
def r12List.st (m : Int) (i : Int) (out : List Int) (J : St El → Prop) (K : AV El → List (AObj El) → Prop) : Prop := cond (decide (i ≤ (36 : Int))) (cond (r12Has m i) (Ob ((List.length out + List.length [i]) * (8 : Nat) ≤ (140737488355328 : Nat)) ∧ (J (r12List.hd m (IntKind.wrap IntKind.i64 (i + (1 : Int))) (out ++ [i])))) (J (r12List.hd m (IntKind.wrap IntKind.i64 (i + (1 : Int))) (out)))) (K (.gs 0) [.row 3 (out : List (El 3))])
theorem r12List.st_ok (m : Int) (i : Int) (out : List Int) (J : St El → Prop) (K : AV El → List (AObj El) → Prop) : evCode (mkCx Tryd.prog S tab_kCheck 0) (evFun (mkCx Tryd.prog S tab_kCheck 0) 3) (loopB Tryd.prog 101 [true, true, false, true, false]) (r12List.hd m i out) (roundK (C := (mkCx Tryd.prog S tab_kCheck 0)) [4, 3, 0] [] J (loopK (mkCx Tryd.prog S tab_kCheck 0) 3 101 [true, true, false, true, false] K)) = r12List.st m i out J K := by kernel_rfl
def r12List.rng (m : Int) (n0 : Nat) (i : Int) (out : List Int) : Prop := 0 ≤ i ∧ i ≤ 37 ∧ (37 - i).toNat < n0 ∧ out.length ≤ i
theorem r12List.lp (m : Int) (v : (List Int)) (n0 : Nat) (i : Int) (out : List Int) (hv : v = r12List.go m n0 i out) (h0 : r12List.rng m n0 i out) (st : St El) (q1 : okH [4, 3, 0] [] st = true) (q2 : headS [4, 3, 0] [] st = r12List.hd m i out) : evCode (mkCx Tryd.prog S tab_kCheck 0) (evFun (mkCx Tryd.prog S tab_kCheck 0) 3) (.loop (loopB Tryd.prog 101 [true, true, false, true, false])) st (loopK (mkCx Tryd.prog S tab_kCheck 0) 3 101 [true, true, false, true, false] (fun r' H' => Gives r' H' (r12List.res v) (r12List.news v))) := by
  refine loop_ev rfl (evFun_mono _ _) [4, 3, 0] [] (X := Nat × Int × (List Int)) (fun x => r12List.hd m x.2.1 x.2.2) (fun x => x.1) (fun x => r12List.rng m x.1 x.2.1 x.2.2 ∧ v = r12List.go m x.1 x.2.1 x.2.2) (n0, i, out) ⟨q1, q2⟩ ⟨h0, hv⟩ ?_
  clear h0 hv q1 q2
  rintro ⟨n0, i, out⟩ ⟨hr, hv⟩
  dsimp only at hr hv
  cases n0 with
  | zero => exact absurd hr (by unfold r12List.rng; omega)
  | succ n0 =>
  unfold r12List.rng at hr
  unfold r12List.go at hv
  refine (r12List.st_ok m i out _ _).mpr ?_
  unfold r12List.st
  revert hv; refine by_cond2 (fun hb hv => ?_) (fun hb hv => ?_)
  · revert hv; refine by_cond2 (fun hb hv => ?_) (fun hb hv => ?_)
    · refine ⟨⟨by (try clear hv); (try clear q1 q2); (try clear hk); (first | omega | ((try simp only [decide_eq_true_eq, decide_eq_false_iff_not, Bool.not_eq_true, Bool.not_eq_false, Bool.and_eq_true, Bool.or_eq_true, Bool.not_not, cond_and, cond_or, List.length_append, List.length_cons, List.length_nil] at *); (first | omega | (intros; (try simp only [Bool.not_not, cond_and, cond_or, Bool.and_eq_true, decide_eq_true_eq] at *); (exact band_nn rfl _ _)) | (intros; (try simp only [Bool.not_not, cond_and, cond_or, Bool.and_eq_true, decide_eq_true_eq] at *); (exact (wu64s _).2.1)) | (intros; (try simp only [Bool.not_not, cond_and, cond_or, Bool.and_eq_true, decide_eq_true_eq] at *); (simp only [Bool.or_eq_false_iff, Bool.and_eq_false_iff, decide_eq_false_iff_not, decide_eq_true_eq, bne_iff_ne, beq_iff_eq, bne_eq_false_iff_eq, beq_eq_false_iff_ne, ne_eq, true_and] at *; omega)) | (intros; (try simp only [Bool.not_not, cond_and, cond_or, Bool.and_eq_true, decide_eq_true_eq] at *); (simp only [List.length_drop, List.length_take, List.length_append, List.length_cons, List.length_nil] at *; omega)) | (intros; (try simp only [Bool.not_not, cond_and, cond_or, Bool.and_eq_true, decide_eq_true_eq] at *); exact r1Power_ne (by omega) (by omega)) | (intros; omega) | (intros; simp only [sized_iff, Bool.not_not, cond_and, cond_or, Bool.and_eq_true, decide_eq_true_eq] at *; omega) | (intros; simp_all [sized_iff, Bool.not_not]; done))))⟩, ?_⟩
      exact ⟨(n0, (IntKind.wrap IntKind.i64 (i + (1 : Int))), (out ++ [i])), (by kernel_rfl), Nat.lt_succ_self n0, (by dsimp only; unfold r12List.rng; (try clear hv); (try clear q1 q2); (try clear hk); (try simp only [decide_eq_true_eq, decide_eq_false_iff_not, Bool.not_eq_true, Bool.not_eq_false, Bool.and_eq_true, Bool.or_eq_true, Bool.not_not, cond_and, cond_or, List.length_append, List.length_cons, List.length_nil] at *); have := wi64s (i + (1 : Int)); omega), hv⟩
    · exact ⟨(n0, (IntKind.wrap IntKind.i64 (i + (1 : Int))), (out)), (by kernel_rfl), Nat.lt_succ_self n0, (by dsimp only; unfold r12List.rng; (try clear hv); (try clear q1 q2); (try clear hk); (try simp only [decide_eq_true_eq, decide_eq_false_iff_not, Bool.not_eq_true, Bool.not_eq_false, Bool.and_eq_true, Bool.or_eq_true, Bool.not_not, cond_and, cond_or, List.length_append, List.length_cons, List.length_nil] at *); have := wi64s (i + (1 : Int)); omega), hv⟩
  · subst hv; exact And.intro (by kernel_rfl) (by kernel_rfl)
def r12List (m : Int) : (List Int) := r12List.go m (38) ((0 : Int)) ([])
def r12List.dec (cs : List (AV El)) : Option (Int) := popI .u64 cs fun a0 c0 => popE c0 a0
def r12List.enc (x : Int) : List (AV El) := [.v (.int .u64 x)]
theorem r12List.dec_ok : ∀ cs x, r12List.dec cs = some x → Imp (S := S) cs (r12List.enc x) := by
  intro cs x h
  unfold r12List.dec at h
  obtain ⟨a0, c0, rfl, h0⟩ := popI_some (S := S) h
  obtain ⟨rfl, rfl⟩ := popE_some (S := S) h0
  exact (.cons (.refl _))
def r12List.nf (m : Int) (K : AV El → List (AObj El) → Prop) : Prop := evCode (mkCx Tryd.prog S tab_kCheck 0) (evFun (mkCx Tryd.prog S tab_kCheck 0) 3) (.loop (loopB Tryd.prog 101 [true, true, false, true, false])) ({ lo := 0, slots := [(4, .v (.int .i64 ((0 : Int)))), (3, .gs 0), (5, .gs 0), (2, .v (.slice none 0 0)), (0, .v (.int .u64 (m)))], n := 18, objs := [.row 3 ([] : List (El 3))] }) (loopK (mkCx Tryd.prog S tab_kCheck 0) 3 101 [true, true, false, true, false] K)
theorem r12List.nf_ok (m : Int) (K : AV El → List (AObj El) → Prop) : evFun (mkCx Tryd.prog S tab_kCheck 0) 4 101 [.v (.int .u64 m)] [] K = r12List.nf m K := by kernel_rfl
theorem r12List.key (m : Int) (v : (List Int)) (hv : v = r12List m) : r12List.nf m (fun r' H' => Gives r' H' (r12List.res v) (r12List.news v)) := by
  unfold r12List at hv
  unfold r12List.nf
  exact r12List.lp m v _ _ _ hv (by unfold r12List.rng; (try clear hv); (try clear q1 q2); (try clear hk); (first | omega | (simp only [List.length_nil]; omega) | (simp; omega))) _ (by kernel_rfl) (by kernel_rfl)
def r12List.ct : Ct El := ctOf r12List.dec (fun _ => []) (fun x => r12List.res (r12List x)) (fun x => r12List.news (r12List x))
theorem r12List.ok : CtOk (mkCx Tryd.prog S [] 0) 101 r12List.ct := ct_mk (C := (mkCx Tryd.prog S tab_kCheck 0)) (mkCx_ok sigOk mixed tab_kCheck_ok 0) r12List.dec_ok (fun x => rfl) 4 (fun x _ => (r12List.nf_ok x _).mpr (r12List.key x _ rfl))
def tab_r12List : List (FuncId × Ct El) := (101, r12List.ct) :: tab_kCheck
theorem tab_r12List_ok : TabOk Tryd.prog S tab_r12List := ⟨r12List.ok, by kernel_rfl, tab_kCheck_ok⟩

/-! wireless/wirelessref12.Count -/
def r12Count.res (r : Int) : AV El := .v (.int .i64 (r))
def r12Count.news (r : Int) : List (AObj El) := []
def r12Count (m : Int) : Int := (↑(List.length (r12List m)) : Int)
def r12Count.dec (cs : List (AV El)) : Option (Int) := popI .u64 cs fun a0 c0 => popE c0 a0
def r12Count.enc (x : Int) : List (AV El) := [.v (.int .u64 x)]
theorem r12Count.dec_ok : ∀ cs x, r12Count.dec cs = some x → Imp (S := S) cs (r12Count.enc x) := by
  intro cs x h
  unfold r12Count.dec at h
  obtain ⟨a0, c0, rfl, h0⟩ := popI_some (S := S) h
  obtain ⟨rfl, rfl⟩ := popE_some (S := S) h0
  exact (.cons (.refl _))
def r12Count.nf (m : Int) (K : AV El → List (AObj El) → Prop) : Prop := (List.length (r12List m) ≤ (9223372036854775807 : Nat)) → (K (.v (.int .i64 ((↑(List.length (r12List m)) : Int)))) [.row 3 (r12List m : List (El 3))])
theorem r12Count.nf_ok (m : Int) (K : AV El → List (AObj El) → Prop) : evFun (mkCx Tryd.prog S tab_r12List 0) 4 94 [.v (.int .u64 m)] [] K = r12Count.nf m K := by kernel_rfl
theorem r12Count.key (m : Int) (v : Int) (hv : v = r12Count m) : r12Count.nf m (fun r' H' => Gives r' H' (r12Count.res v) (r12Count.news v)) := by
  unfold r12Count at hv
  unfold r12Count.nf
  intro hlen
  subst hv; exact And.intro (by kernel_rfl) (by kernel_rfl)
def r12Count.ct : Ct El := ctOf r12Count.dec (fun _ => []) (fun x => r12Count.res (r12Count x)) (fun x => r12Count.news (r12Count x))
theorem r12Count.ok : CtOk (mkCx Tryd.prog S [] 0) 94 r12Count.ct := ct_mk (C := (mkCx Tryd.prog S tab_r12List 0)) (mkCx_ok sigOk mixed tab_r12List_ok 0) r12Count.dec_ok (fun x => rfl) 4 (fun x _ => (r12Count.nf_ok x _).mpr (r12Count.key x _ rfl))
def tab_r12Count : List (FuncId × Ct El) := (94, r12Count.ct) :: tab_r12List
theorem tab_r12Count_ok : TabOk Tryd.prog S tab_r12Count := ⟨r12Count.ok, by kernel_rfl, tab_r12List_ok⟩

theorem aPart_nn (a : Address) : 0 ≤ (aPart a).2 := by unfold aPart; cases (a.Kind == (3 : Int)) <;> simp
theorem prefixes_len : List.length prefixes = 5 := rfl

/-! wireless/address.Check -/
def aCheck.res (r : Int) : AV El := .v (.int .i64 (r))
def aCheck.news (r : Int) : List (AObj El) := []
def aCheck (a : Address) : Int := cond (bif decide (a.Kind ≤ (0 : Int)) then true else decide ((5 : Int) ≤ a.Kind)) ((12 : Int)) (cond (shrK IntKind.u64 a.Bits (48 : Int) != (0 : Int)) ((5 : Int)) (cond (a.Kind == (1 : Int)) ((0 : Int)) (cond (bif
    bif shrK IntKind.u64 a.Bits (46 : Int) != List.getD prefixes (Int.toNat a.Kind) (0 : Int) then true
    else (aPart a).fst == (0 : Int) then
  true
else (aPart a).fst == aMask (aPart a).snd) ((1 : Int)) ((0 : Int)))))
def aCheck.dec (cs : List (AV El)) : Option (Address) := popA Address.dec cs fun a0 c0 => popE c0 a0
def aCheck.enc (x : Address) : List (AV El) := [Address.av x]
theorem aCheck.dec_ok : ∀ cs x, aCheck.dec cs = some x → Imp (S := S) cs (aCheck.enc x) := by
  intro cs x h
  unfold aCheck.dec at h
  obtain ⟨a0, c0, h0, k0⟩ := popA_some (S := S) Address.dec_ok h
  obtain ⟨rfl, rfl⟩ := popE_some (S := S) h0
  exact (k0 _ (.refl _))
def aCheck.nf (a : Address) (K : AV El → List (AObj El) → Prop) : Prop := Ob (o3 (!decide (a.Kind ≤ (0 : Int)))) ∧ (Ob (o3 (!decide (a.Kind ≤ (0 : Int)))) ∧ (Ob (on (decide (a.Kind ≤ (0 : Int)))) ∧ (cond (bif decide (a.Kind ≤ (0 : Int)) then true else decide ((5 : Int) ≤ a.Kind)) (K (.v (.int .i64 ((12 : Int)))) [.cells [.v (.int .i64 (a.Kind)), .v (.int .u64 (a.Bits))]]) (Ob ((0 : Int) ≤ (48 : Int)) ∧ (cond (shrK IntKind.u64 a.Bits (48 : Int) != (0 : Int)) (K (.v (.int .i64 ((5 : Int)))) [.cells [.v (.int .i64 (a.Kind)), .v (.int .u64 (a.Bits))]]) (cond (a.Kind == (1 : Int)) (K (.v (.int .i64 ((0 : Int)))) [.cells [.v (.int .i64 (a.Kind)), .v (.int .u64 (a.Bits))]]) (Ob ((0 : Int) ≤ (46 : Int)) ∧ (Ob ((5 : Nat) = List.length prefixes ∧ (0 : Int) ≤ a.Kind ∧ a.Kind < (↑(List.length prefixes) : Int)) ∧ (Ob (o3 (!shrK IntKind.u64 a.Bits (46 : Int) != List.getD prefixes (Int.toNat a.Kind) (0 : Int))) ∧ (Ob (on (shrK IntKind.u64 a.Bits (46 : Int) != List.getD prefixes (Int.toNat a.Kind) (0 : Int))) ∧ (Ob (o3 (!bif shrK IntKind.u64 a.Bits (46 : Int) != List.getD prefixes (Int.toNat a.Kind) (0 : Int) then true
  else (aPart a).fst == (0 : Int))) ∧ (Ob ((!bif shrK IntKind.u64 a.Bits (46 : Int) != List.getD prefixes (Int.toNat a.Kind) (0 : Int) then true
      else (aPart a).fst == (0 : Int)) =
    true →
  (0 : Int) ≤ (aPart a).snd) ∧ (Ob (o3 (!bif shrK IntKind.u64 a.Bits (46 : Int) != List.getD prefixes (Int.toNat a.Kind) (0 : Int) then true
  else (aPart a).fst == (0 : Int))) ∧ (Ob (o3 (!bif shrK IntKind.u64 a.Bits (46 : Int) != List.getD prefixes (Int.toNat a.Kind) (0 : Int) then true
  else (aPart a).fst == (0 : Int))) ∧ (Ob (on (bif shrK IntKind.u64 a.Bits (46 : Int) != List.getD prefixes (Int.toNat a.Kind) (0 : Int) then true
else (aPart a).fst == (0 : Int))) ∧ (cond (bif
    bif shrK IntKind.u64 a.Bits (46 : Int) != List.getD prefixes (Int.toNat a.Kind) (0 : Int) then true
    else (aPart a).fst == (0 : Int) then
  true
else (aPart a).fst == aMask (aPart a).snd) (K (.v (.int .i64 ((1 : Int)))) [.cells [.v (.int .i64 (a.Kind)), .v (.int .u64 (a.Bits))]]) (K (.v (.int .i64 ((0 : Int)))) [.cells [.v (.int .i64 (a.Kind)), .v (.int .u64 (a.Bits))]])))))))))))))))))
theorem aCheck.nf_ok (a : Address) (K : AV El → List (AObj El) → Prop) : evFun (mkCx Tryd.prog S tab_r12Count 0) 4 44 [Address.av a] [] K = aCheck.nf a K := by kernel_rfl
theorem aCheck.key (a : Address) (v : Int) (hv : v = aCheck a) : aCheck.nf a (fun r' H' => Gives r' H' (aCheck.res v) (aCheck.news v)) := by
  unfold aCheck at hv
  unfold aCheck.nf
  refine ⟨⟨o3_ok _⟩, ?_⟩
  refine ⟨⟨o3_ok _⟩, ?_⟩
  refine ⟨⟨on_ok _⟩, ?_⟩
  revert hv; refine by_cond2 (fun hb hv => ?_) (fun hb hv => ?_)
  · subst hv; exact And.intro (by kernel_rfl) (by kernel_rfl)
  · refine ⟨⟨by (try clear hv); (try clear q1 q2); (try clear hk); (first | omega | ((try simp only [decide_eq_true_eq, decide_eq_false_iff_not, Bool.not_eq_true, Bool.not_eq_false, Bool.and_eq_true, Bool.or_eq_true, Bool.not_not, cond_and, cond_or, List.length_append, List.length_cons, List.length_nil] at *); (first | omega | (intros; (try simp only [Bool.not_not, cond_and, cond_or, Bool.and_eq_true, decide_eq_true_eq] at *); (exact band_nn rfl _ _)) | (intros; (try simp only [Bool.not_not, cond_and, cond_or, Bool.and_eq_true, decide_eq_true_eq] at *); (exact (wu64s _).2.1)) | (intros; (try simp only [Bool.not_not, cond_and, cond_or, Bool.and_eq_true, decide_eq_true_eq] at *); (simp only [Bool.or_eq_false_iff, Bool.and_eq_false_iff, decide_eq_false_iff_not, decide_eq_true_eq, bne_iff_ne, beq_iff_eq, bne_eq_false_iff_eq, beq_eq_false_iff_ne, ne_eq, true_and] at *; omega)) | (intros; (try simp only [Bool.not_not, cond_and, cond_or, Bool.and_eq_true, decide_eq_true_eq] at *); (simp only [List.length_drop, List.length_take, List.length_append, List.length_cons, List.length_nil] at *; omega)) | (intros; (try simp only [Bool.not_not, cond_and, cond_or, Bool.and_eq_true, decide_eq_true_eq] at *); exact r1Power_ne (by omega) (by omega)) | (intros; (try simp only [Bool.not_not, cond_and, cond_or, Bool.and_eq_true, decide_eq_true_eq] at *); (exact aPart_nn _)) | (intros; (try simp only [Bool.not_not, cond_and, cond_or, Bool.and_eq_true, decide_eq_true_eq] at *); (have hpl := prefixes_len; simp only [Bool.or_eq_false_iff, decide_eq_false_iff_not] at *; omega)) | (intros; omega) | (intros; simp only [sized_iff, Bool.not_not, cond_and, cond_or, Bool.and_eq_true, decide_eq_true_eq] at *; omega) | (intros; simp_all [sized_iff, Bool.not_not]; done))))⟩, ?_⟩
    revert hv; refine by_cond2 (fun hb hv => ?_) (fun hb hv => ?_)
    · subst hv; exact And.intro (by kernel_rfl) (by kernel_rfl)
    · revert hv; refine by_cond2 (fun hb hv => ?_) (fun hb hv => ?_)
      · subst hv; exact And.intro (by kernel_rfl) (by kernel_rfl)
      · refine ⟨⟨by (try clear hv); (try clear q1 q2); (try clear hk); (first | omega | ((try simp only [decide_eq_true_eq, decide_eq_false_iff_not, Bool.not_eq_true, Bool.not_eq_false, Bool.and_eq_true, Bool.or_eq_true, Bool.not_not, cond_and, cond_or, List.length_append, List.length_cons, List.length_nil] at *); (first | omega | (intros; (try simp only [Bool.not_not, cond_and, cond_or, Bool.and_eq_true, decide_eq_true_eq] at *); (exact band_nn rfl _ _)) | (intros; (try simp only [Bool.not_not, cond_and, cond_or, Bool.and_eq_true, decide_eq_true_eq] at *); (exact (wu64s _).2.1)) | (intros; (try simp only [Bool.not_not, cond_and, cond_or, Bool.and_eq_true, decide_eq_true_eq] at *); (simp only [Bool.or_eq_false_iff, Bool.and_eq_false_iff, decide_eq_false_iff_not, decide_eq_true_eq, bne_iff_ne, beq_iff_eq, bne_eq_false_iff_eq, beq_eq_false_iff_ne, ne_eq, true_and] at *; omega)) | (intros; (try simp only [Bool.not_not, cond_and, cond_or, Bool.and_eq_true, decide_eq_true_eq] at *); (simp only [List.length_drop, List.length_take, List.length_append, List.length_cons, List.length_nil] at *; omega)) | (intros; (try simp only [Bool.not_not, cond_and, cond_or, Bool.and_eq_true, decide_eq_true_eq] at *); exact r1Power_ne (by omega) (by omega)) | (intros; (try simp only [Bool.not_not, cond_and, cond_or, Bool.and_eq_true, decide_eq_true_eq] at *); (exact aPart_nn _)) | (intros; (try simp only [Bool.not_not, cond_and, cond_or, Bool.and_eq_true, decide_eq_true_eq] at *); (have hpl := prefixes_len; simp only [Bool.or_eq_false_iff, decide_eq_false_iff_not] at *; omega)) | (intros; omega) | (intros; simp only [sized_iff, Bool.not_not, cond_and, cond_or, Bool.and_eq_true, decide_eq_true_eq] at *; omega) | (intros; simp_all [sized_iff, Bool.not_not]; done))))⟩, ?_⟩
        refine ⟨⟨by (try clear hv); (try clear q1 q2); (try clear hk); (first | omega | ((try simp only [decide_eq_true_eq, decide_eq_false_iff_not, Bool.not_eq_true, Bool.not_eq_false, Bool.and_eq_true, Bool.or_eq_true, Bool.not_not, cond_and, cond_or, List.length_append, List.length_cons, List.length_nil] at *); (first | omega | (intros; (try simp only [Bool.not_not, cond_and, cond_or, Bool.and_eq_true, decide_eq_true_eq] at *); (exact band_nn rfl _ _)) | (intros; (try simp only [Bool.not_not, cond_and, cond_or, Bool.and_eq_true, decide_eq_true_eq] at *); (exact (wu64s _).2.1)) | (intros; (try simp only [Bool.not_not, cond_and, cond_or, Bool.and_eq_true, decide_eq_true_eq] at *); (simp only [Bool.or_eq_false_iff, Bool.and_eq_false_iff, decide_eq_false_iff_not, decide_eq_true_eq, bne_iff_ne, beq_iff_eq, bne_eq_false_iff_eq, beq_eq_false_iff_ne, ne_eq, true_and] at *; omega)) | (intros; (try simp only [Bool.not_not, cond_and, cond_or, Bool.and_eq_true, decide_eq_true_eq] at *); (simp only [List.length_drop, List.length_take, List.length_append, List.length_cons, List.length_nil] at *; omega)) | (intros; (try simp only [Bool.not_not, cond_and, cond_or, Bool.and_eq_true, decide_eq_true_eq] at *); exact r1Power_ne (by omega) (by omega)) | (intros; (try simp only [Bool.not_not, cond_and, cond_or, Bool.and_eq_true, decide_eq_true_eq] at *); (exact aPart_nn _)) | (intros; (try simp only [Bool.not_not, cond_and, cond_or, Bool.and_eq_true, decide_eq_true_eq] at *); (have hpl := prefixes_len; simp only [Bool.or_eq_false_iff, decide_eq_false_iff_not] at *; omega)) | (intros; omega) | (intros; simp only [sized_iff, Bool.not_not, cond_and, cond_or, Bool.and_eq_true, decide_eq_true_eq] at *; omega) | (intros; simp_all [sized_iff, Bool.not_not]; done))))⟩, ?_⟩
        refine ⟨⟨o3_ok _⟩, ?_⟩
        refine ⟨⟨on_ok _⟩, ?_⟩
        refine ⟨⟨o3_ok _⟩, ?_⟩
        refine ⟨⟨by (try clear hv); (try clear q1 q2); (try clear hk); (first | omega | ((try simp only [decide_eq_true_eq, decide_eq_false_iff_not, Bool.not_eq_true, Bool.not_eq_false, Bool.and_eq_true, Bool.or_eq_true, Bool.not_not, cond_and, cond_or, List.length_append, List.length_cons, List.length_nil] at *); (first | omega | (intros; (try simp only [Bool.not_not, cond_and, cond_or, Bool.and_eq_true, decide_eq_true_eq] at *); (exact band_nn rfl _ _)) | (intros; (try simp only [Bool.not_not, cond_and, cond_or, Bool.and_eq_true, decide_eq_true_eq] at *); (exact (wu64s _).2.1)) | (intros; (try simp only [Bool.not_not, cond_and, cond_or, Bool.and_eq_true, decide_eq_true_eq] at *); (simp only [Bool.or_eq_false_iff, Bool.and_eq_false_iff, decide_eq_false_iff_not, decide_eq_true_eq, bne_iff_ne, beq_iff_eq, bne_eq_false_iff_eq, beq_eq_false_iff_ne, ne_eq, true_and] at *; omega)) | (intros; (try simp only [Bool.not_not, cond_and, cond_or, Bool.and_eq_true, decide_eq_true_eq] at *); (simp only [List.length_drop, List.length_take, List.length_append, List.length_cons, List.length_nil] at *; omega)) | (intros; (try simp only [Bool.not_not, cond_and, cond_or, Bool.and_eq_true, decide_eq_true_eq] at *); exact r1Power_ne (by omega) (by omega)) | (intros; (try simp only [Bool.not_not, cond_and, cond_or, Bool.and_eq_true, decide_eq_true_eq] at *); (exact aPart_nn _)) | (intros; (try simp only [Bool.not_not, cond_and, cond_or, Bool.and_eq_true, decide_eq_true_eq] at *); (have hpl := prefixes_len; simp only [Bool.or_eq_false_iff, decide_eq_false_iff_not] at *; omega)) | (intros; omega) | (intros; simp only [sized_iff, Bool.not_not, cond_and, cond_or, Bool.and_eq_true, decide_eq_true_eq] at *; omega) | (intros; simp_all [sized_iff, Bool.not_not]; done))))⟩, ?_⟩
        refine ⟨⟨o3_ok _⟩, ?_⟩
        refine ⟨⟨o3_ok _⟩, ?_⟩
        refine ⟨⟨on_ok _⟩, ?_⟩
        revert hv; refine by_cond2 (fun hb hv => ?_) (fun hb hv => ?_)
        · subst hv; exact And.intro (by kernel_rfl) (by kernel_rfl)
        · subst hv; exact And.intro (by kernel_rfl) (by kernel_rfl)
def aCheck.ct : Ct El := ctOf aCheck.dec (fun _ => []) (fun x => aCheck.res (aCheck x)) (fun x => aCheck.news (aCheck x))
theorem aCheck.ok : CtOk (mkCx Tryd.prog S [] 0) 44 aCheck.ct := ct_mk (C := (mkCx Tryd.prog S tab_r12Count 0)) (mkCx_ok sigOk mixed tab_r12Count_ok 0) aCheck.dec_ok (fun x => rfl) 4 (fun x _ => (aCheck.nf_ok x _).mpr (aCheck.key x _ rfl))
def tab_aCheck : List (FuncId × Ct El) := (44, aCheck.ct) :: tab_r12Count
theorem tab_aCheck_ok : TabOk Tryd.prog S tab_aCheck := ⟨aCheck.ok, by kernel_rfl, tab_r12Count_ok⟩

end Go.Aw.W
