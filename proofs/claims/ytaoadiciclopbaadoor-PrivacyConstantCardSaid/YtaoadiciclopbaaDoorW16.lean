/- Contracts of the seat (printed by ct.py). -/
import Derived.Test.YtaoadiciclopbaaDoorW15
set_option linter.unusedVariables false
set_option linter.unusedSimpArgs false
set_option maxRecDepth 20000
set_option maxHeartbeats 1000000
namespace Go.Aw.W
open Go Go.Aw Go.Proofs
attribute [local irreducible] evCode evFun evOps evDs evOne ctxK loopK loopB subC bodyC headS okH roundK

theorem pick_ok (x p : Bool) : x = true → (!p) = false → (x && !!p) = true := by cases x <;> cases p <;> decide
theorem pick_ok2 (x p : Bool) : x = true → p = true → (x && p) = true := by cases x <;> cases p <;> decide
theorem pick_ok3 (x p : Bool) : x = true → p = false → (x && !p) = true := by cases x <;> cases p <;> decide

/-! wireless/wirelesslaw09.PrivacyMakes -/
def privacyMakes.res (r : Bool) : AV El := .v (.bool (r))
def privacyMakes.news (r : Bool) : List (AObj El) := []
def privacyMakes (irk : Int) (prand : Int) : Bool := bif
    bif lives09 then
      (pMake irk prand).fst.Kind == (r9Make irk prand).fst.Kind &&
        (pMake irk prand).fst.Bits == (r9Make irk prand).fst.Bits
    else false then
  (pMake irk prand).snd == (r9Make irk prand).snd
else false
def privacyMakes.dec (cs : List (AV El)) : Option (Int × Int) := popI .u64 cs fun a0 c0 => popI .u32 c0 fun a1 c1 => popE c1 (a0, a1)
def privacyMakes.enc (x : Int × Int) : List (AV El) := [.v (.int .u64 x.1), .v (.int .u32 x.2)]
theorem privacyMakes.dec_ok : ∀ cs x, privacyMakes.dec cs = some x → Imp (S := S) cs (privacyMakes.enc x) := by
  intro cs x h
  unfold privacyMakes.dec at h
  obtain ⟨a0, c0, rfl, h0⟩ := popI_some (S := S) h
  obtain ⟨a1, c1, rfl, h1⟩ := popI_some (S := S) h0
  obtain ⟨rfl, rfl⟩ := popE_some (S := S) h1
  exact (.cons (.cons (.refl _)))
def privacyMakes.nf (irk : Int) (prand : Int) (K : AV El → List (AObj El) → Prop) : Prop := Ob (o3 (lives09)) ∧ (Ob (o3 (lives09)) ∧ (Ob (o2 (lives09)) ∧ (Ob (o3 (bif lives09 then (pMake irk prand).fst.Kind == (r9Make irk prand).fst.Kind && (pMake irk prand).fst.Bits == (r9Make irk prand).fst.Bits else false)) ∧ (Ob (o3 (bif lives09 then (pMake irk prand).fst.Kind == (r9Make irk prand).fst.Kind && (pMake irk prand).fst.Bits == (r9Make irk prand).fst.Bits else false)) ∧ (Ob (o2 (bif lives09 then (pMake irk prand).fst.Kind == (r9Make irk prand).fst.Kind && (pMake irk prand).fst.Bits == (r9Make irk prand).fst.Bits else false)) ∧ (K (.v (.bool (bif bif lives09 then (pMake irk prand).fst.Kind == (r9Make irk prand).fst.Kind && (pMake irk prand).fst.Bits == (r9Make irk prand).fst.Bits else false then (pMake irk prand).snd == (r9Make irk prand).snd else false))) [.cells [.v (.int .i64 ((pMake irk prand).fst.Kind)), .v (.int .u64 ((pMake irk prand).fst.Bits))], .cells [.v (.int .i64 ((r9Make irk prand).fst.Kind)), .v (.int .u64 ((r9Make irk prand).fst.Bits))]]))))))
theorem privacyMakes.nf_ok (irk : Int) (prand : Int) (K : AV El → List (AObj El) → Prop) : evFun (mkCxI Tryd.prog S tab_lives09 0 false sum_fIdx) 4 3 [.v (.int .u64 irk), .v (.int .u32 prand)] [] K = privacyMakes.nf irk prand K := by kernel_rfl
theorem privacyMakes.key (irk : Int) (prand : Int) (v : Bool) (hv : v = privacyMakes irk prand) : privacyMakes.nf irk prand (fun r' H' => Gives r' H' (privacyMakes.res v) (privacyMakes.news v)) := by
  unfold privacyMakes at hv
  unfold privacyMakes.nf
  refine ⟨⟨o3_ok _⟩, ?_⟩
  refine ⟨⟨o3_ok _⟩, ?_⟩
  refine ⟨⟨o2_ok _⟩, ?_⟩
  refine ⟨⟨o3_ok _⟩, ?_⟩
  refine ⟨⟨o3_ok _⟩, ?_⟩
  refine ⟨⟨o2_ok _⟩, ?_⟩
  subst hv; exact And.intro (by kernel_rfl) (by kernel_rfl)
def privacyMakes.ct : Ct El := ctOf privacyMakes.dec (fun _ => []) (fun x => privacyMakes.res (privacyMakes x.1 x.2)) (fun x => privacyMakes.news (privacyMakes x.1 x.2))
theorem privacyMakes.ok : CtOk (mkCx Tryd.prog S [] 0) 3 privacyMakes.ct := ct_mk (C := (mkCxI Tryd.prog S tab_lives09 0 false sum_fIdx)) (mkCxI_ok sigOk mixed tab_lives09_ok 0 false sum_fIdx_ok) privacyMakes.dec_ok (fun x => rfl) 4 (fun x _ => (privacyMakes.nf_ok x.1 x.2 _).mpr (privacyMakes.key x.1 x.2 _ rfl))
def tab_privacyMakes : List (FuncId × Ct El) := (3, privacyMakes.ct) :: tab_lives09
theorem tab_privacyMakes_ok : TabOk Tryd.prog S tab_privacyMakes := ⟨privacyMakes.ok, by kernel_rfl, tab_lives09_ok⟩

/-! wireless/wirelesslaw09.PrivacyResolves -/
def privacyResolves.res (r : Bool) : AV El := .v (.bool (r))
def privacyResolves.news (r : Bool) : List (AObj El) := []
def privacyResolves (irk : Int) (a : Address) : Bool := bif lives09 then pResolves irk a == r9Resolves irk a else false
def privacyResolves.dec (cs : List (AV El)) : Option (Int × Address) := popI .u64 cs fun a0 c0 => popA Address.dec c0 fun a1 c1 => popE c1 (a0, a1)
def privacyResolves.enc (x : Int × Address) : List (AV El) := [.v (.int .u64 x.1), Address.av x.2]
theorem privacyResolves.dec_ok : ∀ cs x, privacyResolves.dec cs = some x → Imp (S := S) cs (privacyResolves.enc x) := by
  intro cs x h
  unfold privacyResolves.dec at h
  obtain ⟨a0, c0, rfl, h0⟩ := popI_some (S := S) h
  obtain ⟨a1, c1, h1, k1⟩ := popA_some (S := S) Address.dec_ok h0
  obtain ⟨rfl, rfl⟩ := popE_some (S := S) h1
  exact (.cons (k1 _ (.refl _)))
def privacyResolves.nf (irk : Int) (a : Address) (K : AV El → List (AObj El) → Prop) : Prop := Ob (o3 (lives09)) ∧ (Ob (o3 (lives09)) ∧ (Ob (o3 (lives09)) ∧ (Ob (o3 (lives09)) ∧ (Ob (o3 (lives09)) ∧ (Ob (o3 (lives09)) ∧ (Ob (o2 (lives09)) ∧ (K (.v (.bool (bif lives09 then pResolves irk a == r9Resolves irk a else false))) [.cells [.v (.int .i64 (a.Kind)), .v (.int .u64 (a.Bits))]])))))))
theorem privacyResolves.nf_ok (irk : Int) (a : Address) (K : AV El → List (AObj El) → Prop) : evFun (mkCxI Tryd.prog S tab_lives09 0 false sum_fIdx) 4 4 [.v (.int .u64 irk), Address.av a] [] K = privacyResolves.nf irk a K := by kernel_rfl
theorem privacyResolves.key (irk : Int) (a : Address) (v : Bool) (hv : v = privacyResolves irk a) : privacyResolves.nf irk a (fun r' H' => Gives r' H' (privacyResolves.res v) (privacyResolves.news v)) := by
  unfold privacyResolves at hv
  unfold privacyResolves.nf
  refine ⟨⟨o3_ok _⟩, ?_⟩
  refine ⟨⟨o3_ok _⟩, ?_⟩
  refine ⟨⟨o3_ok _⟩, ?_⟩
  refine ⟨⟨o3_ok _⟩, ?_⟩
  refine ⟨⟨o3_ok _⟩, ?_⟩
  refine ⟨⟨o3_ok _⟩, ?_⟩
  refine ⟨⟨o2_ok _⟩, ?_⟩
  subst hv; exact And.intro (by kernel_rfl) (by kernel_rfl)
def privacyResolves.ct : Ct El := ctOf privacyResolves.dec (fun _ => []) (fun x => privacyResolves.res (privacyResolves x.1 x.2)) (fun x => privacyResolves.news (privacyResolves x.1 x.2))
theorem privacyResolves.ok : CtOk (mkCx Tryd.prog S [] 0) 4 privacyResolves.ct := ct_mk (C := (mkCxI Tryd.prog S tab_lives09 0 false sum_fIdx)) (mkCxI_ok sigOk mixed tab_lives09_ok 0 false sum_fIdx_ok) privacyResolves.dec_ok (fun x => rfl) 4 (fun x _ => (privacyResolves.nf_ok x.1 x.2 _).mpr (privacyResolves.key x.1 x.2 _ rfl))
def tab_privacyResolves : List (FuncId × Ct El) := (4, privacyResolves.ct) :: tab_privacyMakes
theorem tab_privacyResolves_ok : TabOk Tryd.prog S tab_privacyResolves := ⟨privacyResolves.ok, by kernel_rfl, tab_privacyMakes_ok⟩

/-! wireless/wirelesslaw09.PrivacyOwn -/
def privacyOwn.res (r : Bool) : AV El := .v (.bool (r))
def privacyOwn.news (r : Bool) : List (AObj El) := []
def privacyOwn (irk : Int) (prand : Int) : Bool := cond ((pMake irk prand).snd != (0 : Int)) (bif bif lives09 then bif bif irk == (0 : Int) then true else decide (prand < (1 : Int)) then true else decide ((4194302 : Int) < prand) else false then !pResolves irk (pMake irk prand).fst else false) (bif bif lives09 then aCheck (pMake irk prand).fst == (0 : Int) else false then pResolves irk (pMake irk prand).fst else false)
def privacyOwn.dec (cs : List (AV El)) : Option (Int × Int) := popI .u64 cs fun a0 c0 => popI .u32 c0 fun a1 c1 => popE c1 (a0, a1)
def privacyOwn.enc (x : Int × Int) : List (AV El) := [.v (.int .u64 x.1), .v (.int .u32 x.2)]
theorem privacyOwn.dec_ok : ∀ cs x, privacyOwn.dec cs = some x → Imp (S := S) cs (privacyOwn.enc x) := by
  intro cs x h
  unfold privacyOwn.dec at h
  obtain ⟨a0, c0, rfl, h0⟩ := popI_some (S := S) h
  obtain ⟨a1, c1, rfl, h1⟩ := popI_some (S := S) h0
  obtain ⟨rfl, rfl⟩ := popE_some (S := S) h1
  exact (.cons (.cons (.refl _)))
def privacyOwn.nf (irk : Int) (prand : Int) (K : AV El → List (AObj El) → Prop) : Prop := cond ((pMake irk prand).snd != (0 : Int)) (Ob (o3 (lives09)) ∧ (Ob (o3 (lives09)) ∧ (Ob (o3 (lives09 && !irk == (0 : Int))) ∧ (Ob (o2 (lives09)) ∧ (Ob (lives09 = true → (irk == (0 : Int)) = false → (lives09 && !irk == (0 : Int)) = true) ∧ (Ob (o3 (lives09)) ∧ (Ob (o3 (lives09 && !bif irk == (0 : Int) then true else decide (prand < (1 : Int)))) ∧ (Ob (o2 (lives09)) ∧ (Ob (lives09 = true → (bif irk == (0 : Int) then true else decide (prand < (1 : Int))) = false → (lives09 && !bif irk == (0 : Int) then true else decide (prand < (1 : Int))) = true) ∧ (Ob (o2 (lives09)) ∧ (Ob (o3 (bif lives09 then bif bif irk == (0 : Int) then true else decide (prand < (1 : Int)) then true else decide ((4194302 : Int) < prand) else false)) ∧ (Ob (o3 (bif lives09 then bif bif irk == (0 : Int) then true else decide (prand < (1 : Int)) then true else decide ((4194302 : Int) < prand) else false)) ∧ (Ob (o3 (bif lives09 then bif bif irk == (0 : Int) then true else decide (prand < (1 : Int)) then true else decide ((4194302 : Int) < prand) else false)) ∧ (Ob (o2 (bif lives09 then bif bif irk == (0 : Int) then true else decide (prand < (1 : Int)) then true else decide ((4194302 : Int) < prand) else false)) ∧ (K (.v (.bool (bif bif lives09 then bif bif irk == (0 : Int) then true else decide (prand < (1 : Int)) then true else decide ((4194302 : Int) < prand) else false then !pResolves irk (pMake irk prand).fst else false))) [.cells [.v (.int .i64 ((pMake irk prand).fst.Kind)), .v (.int .u64 ((pMake irk prand).fst.Bits))]]))))))))))))))) (Ob (o3 (lives09)) ∧ (Ob (o3 (lives09)) ∧ (Ob (o2 (lives09)) ∧ (Ob (o3 (bif lives09 then aCheck (pMake irk prand).fst == (0 : Int) else false)) ∧ (Ob (o3 (bif lives09 then aCheck (pMake irk prand).fst == (0 : Int) else false)) ∧ (Ob (o2 (bif lives09 then aCheck (pMake irk prand).fst == (0 : Int) else false)) ∧ (K (.v (.bool (bif bif lives09 then aCheck (pMake irk prand).fst == (0 : Int) else false then pResolves irk (pMake irk prand).fst else false))) [.cells [.v (.int .i64 ((pMake irk prand).fst.Kind)), .v (.int .u64 ((pMake irk prand).fst.Bits))]])))))))
theorem privacyOwn.nf_ok (irk : Int) (prand : Int) (K : AV El → List (AObj El) → Prop) : evFun (mkCxI Tryd.prog S tab_lives09 0 false sum_fIdx) 4 5 [.v (.int .u64 irk), .v (.int .u32 prand)] [] K = privacyOwn.nf irk prand K := by kernel_rfl
theorem privacyOwn.key (irk : Int) (prand : Int) (v : Bool) (hv : v = privacyOwn irk prand) : privacyOwn.nf irk prand (fun r' H' => Gives r' H' (privacyOwn.res v) (privacyOwn.news v)) := by
  unfold privacyOwn at hv
  unfold privacyOwn.nf
  revert hv; refine by_cond2 (fun hb hv => ?_) (fun hb hv => ?_)
  refine ⟨⟨o3_ok _⟩, ?_⟩
  refine ⟨⟨o3_ok _⟩, ?_⟩
  refine ⟨⟨o3_ok _⟩, ?_⟩
  refine ⟨⟨o2_ok _⟩, ?_⟩
  refine ⟨⟨?_⟩, ?_⟩; rotate_left
  refine ⟨⟨o3_ok _⟩, ?_⟩
  refine ⟨⟨o3_ok _⟩, ?_⟩
  refine ⟨⟨o2_ok _⟩, ?_⟩
  refine ⟨⟨?_⟩, ?_⟩; rotate_left
  refine ⟨⟨o2_ok _⟩, ?_⟩
  refine ⟨⟨o3_ok _⟩, ?_⟩
  refine ⟨⟨o3_ok _⟩, ?_⟩
  refine ⟨⟨o3_ok _⟩, ?_⟩
  refine ⟨⟨o2_ok _⟩, ?_⟩
  subst hv; exact And.intro (by kernel_rfl) (by kernel_rfl)
  refine ⟨⟨o3_ok _⟩, ?_⟩
  refine ⟨⟨o3_ok _⟩, ?_⟩
  refine ⟨⟨o2_ok _⟩, ?_⟩
  refine ⟨⟨o3_ok _⟩, ?_⟩
  refine ⟨⟨o3_ok _⟩, ?_⟩
  refine ⟨⟨o2_ok _⟩, ?_⟩
  subst hv; exact And.intro (by kernel_rfl) (by kernel_rfl)
  all_goals ((try clear hv); (try clear q1 q2); (try clear hk); (first | omega | (exact pick_ok _ _) | (exact pick_ok2 _ _) | (exact pick_ok3 _ _) | ((try simp only [decide_eq_true_eq, decide_eq_false_iff_not, Bool.not_eq_true, Bool.not_eq_false, Bool.and_eq_true, Bool.or_eq_true, Bool.not_not, cond_and, cond_or, List.length_append, List.length_cons, List.length_nil] at *); (first | done | ((first | omega | (intros; (try simp only [Bool.not_not, cond_and, cond_or, Bool.and_eq_true, decide_eq_true_eq] at *); (exact band_nn rfl _ _)) | (intros; (try simp only [Bool.not_not, cond_and, cond_or, Bool.and_eq_true, decide_eq_true_eq] at *); (exact (wu64s _).2.1)) | (intros; (try simp only [Bool.not_not, cond_and, cond_or, Bool.and_eq_true, decide_eq_true_eq] at *); (simp only [Bool.or_eq_false_iff, Bool.and_eq_false_iff, decide_eq_false_iff_not, decide_eq_true_eq, bne_iff_ne, beq_iff_eq, bne_eq_false_iff_eq, beq_eq_false_iff_ne, ne_eq, true_and] at *; omega)) | (intros; (try simp only [Bool.not_not, cond_and, cond_or, Bool.and_eq_true, decide_eq_true_eq] at *); (simp only [List.length_drop, List.length_take, List.length_append, List.length_cons, List.length_nil] at *; omega)) | (intros; (try simp only [Bool.not_not, cond_and, cond_or, Bool.and_eq_true, decide_eq_true_eq] at *); (simp_all; omega)) | (intros; omega) | (intros; simp only [Bool.not_not, cond_and, cond_or, Bool.and_eq_true, decide_eq_true_eq] at *; omega) | (intros; simp_all [Bool.not_not]; done)))))))
def privacyOwn.ct : Ct El := ctOf privacyOwn.dec (fun _ => []) (fun x => privacyOwn.res (privacyOwn x.1 x.2)) (fun x => privacyOwn.news (privacyOwn x.1 x.2))
theorem privacyOwn.ok : CtOk (mkCx Tryd.prog S [] 0) 5 privacyOwn.ct := ct_mk (C := (mkCxI Tryd.prog S tab_lives09 0 false sum_fIdx)) (mkCxI_ok sigOk mixed tab_lives09_ok 0 false sum_fIdx_ok) privacyOwn.dec_ok (fun x => rfl) 4 (fun x _ => (privacyOwn.nf_ok x.1 x.2 _).mpr (privacyOwn.key x.1 x.2 _ rfl))
def tab_privacyOwn : List (FuncId × Ct El) := (5, privacyOwn.ct) :: tab_privacyResolves
theorem tab_privacyOwn_ok : TabOk Tryd.prog S tab_privacyOwn := ⟨privacyOwn.ok, by kernel_rfl, tab_privacyResolves_ok⟩

/-! wireless/wirelesslaw09.PrivacySearches -/
def privacySearches.res (r : Bool) : AV El := .v (.bool (r))
def privacySearches.news (r : Bool) : List (AObj El) := []
def privacySearches (list : List Identity) (a : Address) : Bool := cond (decide ((60 : Int) < (↑(List.length list) : Int))) (lives09) (bif lives09 then pFind list a == r9Find list a else false)
def privacySearches.dec (cs : List (AV El)) : Option ((List Identity) × Address) := popS 38 cs fun a0 c0 => popA Address.dec c0 fun a1 c1 => popE c1 (a0, a1)
def privacySearches.enc (x : (List Identity) × Address) : List (AV El) := [.sl 38 (x.1 : List (El 38)) false, Address.av x.2]
theorem privacySearches.dec_ok : ∀ cs x, privacySearches.dec cs = some x → Imp (S := S) cs (privacySearches.enc x) := by
  intro cs x h
  unfold privacySearches.dec at h
  obtain ⟨a0, c0, h0, k0⟩ := popS_some (S := S) (t := 38) h
  obtain ⟨a1, c1, h1, k1⟩ := popA_some (S := S) Address.dec_ok h0
  obtain ⟨rfl, rfl⟩ := popE_some (S := S) h1
  exact (k0 _ (k1 _ (.refl _)))
def privacySearches.nf (list : List Identity) (a : Address) (K : AV El → List (AObj El) → Prop) : Prop := (List.length list ≤ (9223372036854775807 : Nat)) → (cond (decide ((60 : Int) < (↑(List.length list) : Int))) (K (.v (.bool (lives09))) [.cells [.v (.int .i64 (a.Kind)), .v (.int .u64 (a.Bits))]]) (Ob (o3 (lives09)) ∧ (Ob (o3 (lives09)) ∧ (Ob (o3 (lives09)) ∧ (Ob (o3 (lives09)) ∧ (Ob (o3 (lives09)) ∧ (Ob (o3 (lives09)) ∧ (Ob (o2 (lives09)) ∧ (K (.v (.bool (bif lives09 then pFind list a == r9Find list a else false))) [.cells [.v (.int .i64 (a.Kind)), .v (.int .u64 (a.Bits))]])))))))))
theorem privacySearches.nf_ok (list : List Identity) (a : Address) (K : AV El → List (AObj El) → Prop) : evFun (mkCxI Tryd.prog S tab_lives09 0 false sum_fIdx) 4 6 [.sl 38 (list : List (El 38)) false, Address.av a] [] K = privacySearches.nf list a K := by kernel_rfl
theorem privacySearches.key (list : List Identity) (a : Address) (v : Bool) (hv : v = privacySearches list a) : privacySearches.nf list a (fun r' H' => Gives r' H' (privacySearches.res v) (privacySearches.news v)) := by
  unfold privacySearches at hv
  unfold privacySearches.nf
  intro hlen
  revert hv; refine by_cond2 (fun hb hv => ?_) (fun hb hv => ?_)
  · subst hv; exact And.intro (by kernel_rfl) (by kernel_rfl)
  · refine ⟨⟨o3_ok _⟩, ?_⟩
    refine ⟨⟨o3_ok _⟩, ?_⟩
    refine ⟨⟨o3_ok _⟩, ?_⟩
    refine ⟨⟨o3_ok _⟩, ?_⟩
    refine ⟨⟨o3_ok _⟩, ?_⟩
    refine ⟨⟨o3_ok _⟩, ?_⟩
    refine ⟨⟨o2_ok _⟩, ?_⟩
    subst hv; exact And.intro (by kernel_rfl) (by kernel_rfl)
def privacySearches.ct : Ct El := ctOf privacySearches.dec (fun _ => []) (fun x => privacySearches.res (privacySearches x.1 x.2)) (fun x => privacySearches.news (privacySearches x.1 x.2))
theorem privacySearches.ok : CtOk (mkCx Tryd.prog S [] 0) 6 privacySearches.ct := ct_mk (C := (mkCxI Tryd.prog S tab_lives09 0 false sum_fIdx)) (mkCxI_ok sigOk mixed tab_lives09_ok 0 false sum_fIdx_ok) privacySearches.dec_ok (fun x => rfl) 4 (fun x _ => (privacySearches.nf_ok x.1 x.2 _).mpr (privacySearches.key x.1 x.2 _ rfl))
def tab_privacySearches : List (FuncId × Ct El) := (6, privacySearches.ct) :: tab_privacyOwn
theorem tab_privacySearches_ok : TabOk Tryd.prog S tab_privacySearches := ⟨privacySearches.ok, by kernel_rfl, tab_privacyOwn_ok⟩

/-! wireless/wirelesslaw09.PrivacyPeriods -/
def privacyPeriods.res (r : Bool) : AV El := .v (.bool (r))
def privacyPeriods.news (r : Bool) : List (AObj El) := []
def privacyPeriods (id : Identity) (p1 : Bool) (epoch : Int) (p3 : Int) (period : Int) : Bool := cond (bif pEpoch p3 period != r9Epoch p3 period then true else !((pAt id.IRK epoch).Kind == (r9At id.IRK epoch).Kind && (pAt id.IRK epoch).Bits == (r9At id.IRK epoch).Bits)) (false) (bif lives09 then (pCurrent id p1 p3 period).Kind == (r9Current id p1 p3 period).Kind && (pCurrent id p1 p3 period).Bits == (r9Current id p1 p3 period).Bits else false)
def privacyPeriods.dec (cs : List (AV El)) : Option (Identity × Bool × Int × Int × Int) := popA Identity.dec cs fun a0 c0 => popB c0 fun a1 c1 => popI .i64 c1 fun a2 c2 => popI .i64 c2 fun a3 c3 => popI .i64 c3 fun a4 c4 => popE c4 (a0, a1, a2, a3, a4)
def privacyPeriods.enc (x : Identity × Bool × Int × Int × Int) : List (AV El) := [Identity.av x.1, .v (.bool x.2.1), .v (.int .i64 x.2.2.1), .v (.int .i64 x.2.2.2.1), .v (.int .i64 x.2.2.2.2)]
theorem privacyPeriods.dec_ok : ∀ cs x, privacyPeriods.dec cs = some x → Imp (S := S) cs (privacyPeriods.enc x) := by
  intro cs x h
  unfold privacyPeriods.dec at h
  obtain ⟨a0, c0, h0, k0⟩ := popA_some (S := S) Identity.dec_ok h
  obtain ⟨a1, c1, rfl, h1⟩ := popB_some (S := S) h0
  obtain ⟨a2, c2, rfl, h2⟩ := popI_some (S := S) h1
  obtain ⟨a3, c3, rfl, h3⟩ := popI_some (S := S) h2
  obtain ⟨a4, c4, rfl, h4⟩ := popI_some (S := S) h3
  obtain ⟨rfl, rfl⟩ := popE_some (S := S) h4
  exact (k0 _ (.cons (.cons (.cons (.cons (.refl _))))))
def privacyPeriods.nf (id : Identity) (p1 : Bool) (epoch : Int) (p3 : Int) (period : Int) (K : AV El → List (AObj El) → Prop) : Prop := Ob (o3 (!pEpoch p3 period != r9Epoch p3 period)) ∧ (Ob (o3 (!pEpoch p3 period != r9Epoch p3 period)) ∧ (Ob (o3 (!pEpoch p3 period != r9Epoch p3 period)) ∧ (Ob (o3 (!pEpoch p3 period != r9Epoch p3 period)) ∧ (Ob (o3 (!pEpoch p3 period != r9Epoch p3 period)) ∧ (Ob (o3 (!pEpoch p3 period != r9Epoch p3 period)) ∧ (Ob (o3 (!pEpoch p3 period != r9Epoch p3 period)) ∧ (Ob (o3 (!pEpoch p3 period != r9Epoch p3 period)) ∧ (Ob (on (pEpoch p3 period != r9Epoch p3 period)) ∧ (cond (bif pEpoch p3 period != r9Epoch p3 period then true else !((pAt id.IRK epoch).Kind == (r9At id.IRK epoch).Kind && (pAt id.IRK epoch).Bits == (r9At id.IRK epoch).Bits)) (K (.v (.bool (false))) [.cells [.v (.int .i64 (id.Address.Kind)), .v (.int .u64 (id.Address.Bits)), .v (.int .u64 (id.IRK))]]) (Ob (o3 (lives09)) ∧ (Ob (o3 (lives09)) ∧ (Ob (o3 (lives09)) ∧ (Ob (o3 (lives09)) ∧ (Ob (o3 (lives09)) ∧ (Ob (o3 (lives09)) ∧ (Ob (o3 (lives09)) ∧ (Ob (o3 (lives09)) ∧ (Ob (o3 (lives09)) ∧ (Ob (o3 (lives09)) ∧ (Ob (o2 (lives09)) ∧ (K (.v (.bool (bif lives09 then (pCurrent id p1 p3 period).Kind == (r9Current id p1 p3 period).Kind && (pCurrent id p1 p3 period).Bits == (r9Current id p1 p3 period).Bits else false))) [.cells [.v (.int .i64 (id.Address.Kind)), .v (.int .u64 (id.Address.Bits)), .v (.int .u64 (id.IRK))]])))))))))))))))))))))
theorem privacyPeriods.nf_ok (id : Identity) (p1 : Bool) (epoch : Int) (p3 : Int) (period : Int) (K : AV El → List (AObj El) → Prop) : evFun (mkCxI Tryd.prog S tab_lives09 0 false sum_fIdx) 4 7 [Identity.av id, .v (.bool p1), .v (.int .i64 epoch), .v (.int .i64 p3), .v (.int .i64 period)] [] K = privacyPeriods.nf id p1 epoch p3 period K := by kernel_rfl
theorem privacyPeriods.key (id : Identity) (p1 : Bool) (epoch : Int) (p3 : Int) (period : Int) (v : Bool) (hv : v = privacyPeriods id p1 epoch p3 period) : privacyPeriods.nf id p1 epoch p3 period (fun r' H' => Gives r' H' (privacyPeriods.res v) (privacyPeriods.news v)) := by
  unfold privacyPeriods at hv
  unfold privacyPeriods.nf
  refine ⟨⟨o3_ok _⟩, ?_⟩
  refine ⟨⟨o3_ok _⟩, ?_⟩
  refine ⟨⟨o3_ok _⟩, ?_⟩
  refine ⟨⟨o3_ok _⟩, ?_⟩
  refine ⟨⟨o3_ok _⟩, ?_⟩
  refine ⟨⟨o3_ok _⟩, ?_⟩
  refine ⟨⟨o3_ok _⟩, ?_⟩
  refine ⟨⟨o3_ok _⟩, ?_⟩
  refine ⟨⟨on_ok _⟩, ?_⟩
  revert hv; refine by_cond2 (fun hb hv => ?_) (fun hb hv => ?_)
  · subst hv; exact And.intro (by kernel_rfl) (by kernel_rfl)
  · refine ⟨⟨o3_ok _⟩, ?_⟩
    refine ⟨⟨o3_ok _⟩, ?_⟩
    refine ⟨⟨o3_ok _⟩, ?_⟩
    refine ⟨⟨o3_ok _⟩, ?_⟩
    refine ⟨⟨o3_ok _⟩, ?_⟩
    refine ⟨⟨o3_ok _⟩, ?_⟩
    refine ⟨⟨o3_ok _⟩, ?_⟩
    refine ⟨⟨o3_ok _⟩, ?_⟩
    refine ⟨⟨o3_ok _⟩, ?_⟩
    refine ⟨⟨o3_ok _⟩, ?_⟩
    refine ⟨⟨o2_ok _⟩, ?_⟩
    subst hv; exact And.intro (by kernel_rfl) (by kernel_rfl)
def privacyPeriods.ct : Ct El := ctOf privacyPeriods.dec (fun _ => []) (fun x => privacyPeriods.res (privacyPeriods x.1 x.2.1 x.2.2.1 x.2.2.2.1 x.2.2.2.2)) (fun x => privacyPeriods.news (privacyPeriods x.1 x.2.1 x.2.2.1 x.2.2.2.1 x.2.2.2.2))
theorem privacyPeriods.ok : CtOk (mkCx Tryd.prog S [] 0) 7 privacyPeriods.ct := ct_mk (C := (mkCxI Tryd.prog S tab_lives09 0 false sum_fIdx)) (mkCxI_ok sigOk mixed tab_lives09_ok 0 false sum_fIdx_ok) privacyPeriods.dec_ok (fun x => rfl) 4 (fun x _ => (privacyPeriods.nf_ok x.1 x.2.1 x.2.2.1 x.2.2.2.1 x.2.2.2.2 _).mpr (privacyPeriods.key x.1 x.2.1 x.2.2.1 x.2.2.2.1 x.2.2.2.2 _ rfl))
def tab_privacyPeriods : List (FuncId × Ct El) := (7, privacyPeriods.ct) :: tab_privacySearches
theorem tab_privacyPeriods_ok : TabOk Tryd.prog S tab_privacyPeriods := ⟨privacyPeriods.ok, by kernel_rfl, tab_privacySearches_ok⟩

/-! wireless/wirelesslaw09.PrivacyConstant -/
def privacyConstant.res (r : Bool) : AV El := .v (.bool (r))
def privacyConstant.news (r : Bool) : List (AObj El) := []
def privacyConstant (id : Identity) (p1 : Bool) (p2 : Int) (period : Int) (later : Int) : Bool := cond (bif bif bif bif decide (p2 < (0 : Int)) then true else decide (period < (1 : Int)) then true else decide (later < (0 : Int)) then true else decide (IntKind.wrap IntKind.i64 (period - Int.tmod p2 period) ≤ later) then true else decide (IntKind.wrap IntKind.i64 ((9223372036854775807 : Int) - later) < p2)) (lives09) (bif bif bif lives09 then (pCurrent id p1 p2 period).Kind == (pCurrent id p1 (IntKind.wrap IntKind.i64 (p2 + later)) period).Kind && (pCurrent id p1 p2 period).Bits == (pCurrent id p1 (IntKind.wrap IntKind.i64 (p2 + later)) period).Bits else false then bif bif !p1 then true else id.IRK == (0 : Int) then true else bif aCheck (pCurrent id p1 p2 period) == (0 : Int) then (pCurrent id p1 p2 period).Kind == (3 : Int) else false else false then bif p1 then true else (pCurrent id p1 p2 period).Kind == id.Address.Kind && (pCurrent id p1 p2 period).Bits == id.Address.Bits else false)
def privacyConstant.dec (cs : List (AV El)) : Option (Identity × Bool × Int × Int × Int) := popA Identity.dec cs fun a0 c0 => popB c0 fun a1 c1 => popI .i64 c1 fun a2 c2 => popI .i64 c2 fun a3 c3 => popI .i64 c3 fun a4 c4 => popE c4 (a0, a1, a2, a3, a4)
def privacyConstant.enc (x : Identity × Bool × Int × Int × Int) : List (AV El) := [Identity.av x.1, .v (.bool x.2.1), .v (.int .i64 x.2.2.1), .v (.int .i64 x.2.2.2.1), .v (.int .i64 x.2.2.2.2)]
theorem privacyConstant.dec_ok : ∀ cs x, privacyConstant.dec cs = some x → Imp (S := S) cs (privacyConstant.enc x) := by
  intro cs x h
  unfold privacyConstant.dec at h
  obtain ⟨a0, c0, h0, k0⟩ := popA_some (S := S) Identity.dec_ok h
  obtain ⟨a1, c1, rfl, h1⟩ := popB_some (S := S) h0
  obtain ⟨a2, c2, rfl, h2⟩ := popI_some (S := S) h1
  obtain ⟨a3, c3, rfl, h3⟩ := popI_some (S := S) h2
  obtain ⟨a4, c4, rfl, h4⟩ := popI_some (S := S) h3
  obtain ⟨rfl, rfl⟩ := popE_some (S := S) h4
  exact (k0 _ (.cons (.cons (.cons (.cons (.refl _))))))
def privacyConstant.t1 (id : Identity) (p1 : Bool) (p2 : Int) (period : Int) (later : Int) := (bif lives09 then (pCurrent id p1 p2 period).Kind == (pCurrent id p1 (IntKind.wrap IntKind.i64 (p2 + later)) period).Kind && (pCurrent id p1 p2 period).Bits == (pCurrent id p1 (IntKind.wrap IntKind.i64 (p2 + later)) period).Bits else false)
def privacyConstant.t2 (id : Identity) (p1 : Bool) (p2 : Int) (period : Int) (later : Int) := (bif bif lives09 then (pCurrent id p1 p2 period).Kind == (pCurrent id p1 (IntKind.wrap IntKind.i64 (p2 + later)) period).Kind && (pCurrent id p1 p2 period).Bits == (pCurrent id p1 (IntKind.wrap IntKind.i64 (p2 + later)) period).Bits else false then bif bif !p1 then true else id.IRK == (0 : Int) then true else bif aCheck (pCurrent id p1 p2 period) == (0 : Int) then (pCurrent id p1 p2 period).Kind == (3 : Int) else false else false)
def privacyConstant.nf (id : Identity) (p1 : Bool) (p2 : Int) (period : Int) (later : Int) (K : AV El → List (AObj El) → Prop) : Prop := Ob (o3 (!decide (p2 < (0 : Int)))) ∧ (Ob (on (decide (p2 < (0 : Int)))) ∧ (Ob (o3 (!bif decide (p2 < (0 : Int)) then true else decide (period < (1 : Int)))) ∧ (Ob (on (bif decide (p2 < (0 : Int)) then true else decide (period < (1 : Int)))) ∧ (Ob (o3 (!bif bif decide (p2 < (0 : Int)) then true else decide (period < (1 : Int)) then true else decide (later < (0 : Int)))) ∧ (Ob (o3 (!bif bif decide (p2 < (0 : Int)) then true else decide (period < (1 : Int)) then true else decide (later < (0 : Int)))) ∧ (Ob ((!bif bif decide (p2 < (0 : Int)) then true else decide (period < (1 : Int)) then true else decide (later < (0 : Int))) = true → period ≠ (0 : Int)) ∧ (Ob (o3 (!bif bif decide (p2 < (0 : Int)) then true else decide (period < (1 : Int)) then true else decide (later < (0 : Int)))) ∧ (Ob (o3 (!bif bif decide (p2 < (0 : Int)) then true else decide (period < (1 : Int)) then true else decide (later < (0 : Int)))) ∧ (Ob (o3 (!bif bif decide (p2 < (0 : Int)) then true else decide (period < (1 : Int)) then true else decide (later < (0 : Int)))) ∧ (Ob (o3 (!bif bif decide (p2 < (0 : Int)) then true else decide (period < (1 : Int)) then true else decide (later < (0 : Int)))) ∧ (Ob (on (bif bif decide (p2 < (0 : Int)) then true else decide (period < (1 : Int)) then true else decide (later < (0 : Int)))) ∧ (Ob (o3 (!bif bif bif decide (p2 < (0 : Int)) then true else decide (period < (1 : Int)) then true else decide (later < (0 : Int)) then true else decide (IntKind.wrap IntKind.i64 (period - Int.tmod p2 period) ≤ later))) ∧ (Ob (o3 (!bif bif bif decide (p2 < (0 : Int)) then true else decide (period < (1 : Int)) then true else decide (later < (0 : Int)) then true else decide (IntKind.wrap IntKind.i64 (period - Int.tmod p2 period) ≤ later))) ∧ (Ob (o3 (!bif bif bif decide (p2 < (0 : Int)) then true else decide (period < (1 : Int)) then true else decide (later < (0 : Int)) then true else decide (IntKind.wrap IntKind.i64 (period - Int.tmod p2 period) ≤ later))) ∧ (Ob (on (bif bif bif decide (p2 < (0 : Int)) then true else decide (period < (1 : Int)) then true else decide (later < (0 : Int)) then true else decide (IntKind.wrap IntKind.i64 (period - Int.tmod p2 period) ≤ later))) ∧ (cond (bif bif bif bif decide (p2 < (0 : Int)) then true else decide (period < (1 : Int)) then true else decide (later < (0 : Int)) then true else decide (IntKind.wrap IntKind.i64 (period - Int.tmod p2 period) ≤ later) then true else decide (IntKind.wrap IntKind.i64 ((9223372036854775807 : Int) - later) < p2)) (K (.v (.bool (lives09))) [.cells [.v (.int .i64 (id.Address.Kind)), .v (.int .u64 (id.Address.Bits)), .v (.int .u64 (id.IRK))]]) (Ob (o3 (lives09)) ∧ (Ob (o3 (lives09)) ∧ (Ob (o3 (lives09)) ∧ (Ob (o3 (lives09)) ∧ (Ob (o3 (lives09)) ∧ (Ob (o3 (lives09)) ∧ (Ob (o3 (lives09)) ∧ (Ob (o3 (lives09)) ∧ (Ob (o2 (lives09)) ∧ (Ob (o3 (privacyConstant.t1 id p1 p2 period later)) ∧ (Ob (o3 (privacyConstant.t1 id p1 p2 period later)) ∧ (Ob (o3 ((privacyConstant.t1 id p1 p2 period later) && !!p1)) ∧ (Ob (o3 ((privacyConstant.t1 id p1 p2 period later) && !!p1)) ∧ (Ob (o2 (privacyConstant.t1 id p1 p2 period later)) ∧ (Ob ((privacyConstant.t1 id p1 p2 period later) = true → (!p1) = false → ((privacyConstant.t1 id p1 p2 period later) && !!p1) = true) ∧ (Ob (o3 (privacyConstant.t1 id p1 p2 period later)) ∧ (Ob (o3 ((privacyConstant.t1 id p1 p2 period later) && !bif !p1 then true else id.IRK == (0 : Int))) ∧ (Ob (o3 ((privacyConstant.t1 id p1 p2 period later) && !bif !p1 then true else id.IRK == (0 : Int))) ∧ (Ob (o3 ((privacyConstant.t1 id p1 p2 period later) && !bif !p1 then true else id.IRK == (0 : Int))) ∧ (Ob (o3 (((privacyConstant.t1 id p1 p2 period later) && !bif !p1 then true else id.IRK == (0 : Int)) && aCheck (pCurrent id p1 p2 period) == (0 : Int))) ∧ (Ob (o3 (((privacyConstant.t1 id p1 p2 period later) && !bif !p1 then true else id.IRK == (0 : Int)) && aCheck (pCurrent id p1 p2 period) == (0 : Int))) ∧ (Ob (o2 ((privacyConstant.t1 id p1 p2 period later) && !bif !p1 then true else id.IRK == (0 : Int))) ∧ (Ob (((privacyConstant.t1 id p1 p2 period later) && !bif !p1 then true else id.IRK == (0 : Int)) = true → (aCheck (pCurrent id p1 p2 period) == (0 : Int)) = true → (((privacyConstant.t1 id p1 p2 period later) && !bif !p1 then true else id.IRK == (0 : Int)) && aCheck (pCurrent id p1 p2 period) == (0 : Int)) = true) ∧ (Ob (o2 (privacyConstant.t1 id p1 p2 period later)) ∧ (Ob ((privacyConstant.t1 id p1 p2 period later) = true → (bif !p1 then true else id.IRK == (0 : Int)) = false → ((privacyConstant.t1 id p1 p2 period later) && !bif !p1 then true else id.IRK == (0 : Int)) = true) ∧ (Ob (o2 (privacyConstant.t1 id p1 p2 period later)) ∧ (Ob (o3 (privacyConstant.t2 id p1 p2 period later)) ∧ (Ob (o3 ((privacyConstant.t2 id p1 p2 period later) && !p1)) ∧ (Ob (o3 ((privacyConstant.t2 id p1 p2 period later) && !p1)) ∧ (Ob (o3 ((privacyConstant.t2 id p1 p2 period later) && !p1)) ∧ (Ob (o2 (privacyConstant.t2 id p1 p2 period later)) ∧ (Ob ((privacyConstant.t2 id p1 p2 period later) = true → p1 = false → ((privacyConstant.t2 id p1 p2 period later) && !p1) = true) ∧ (Ob (o2 (privacyConstant.t2 id p1 p2 period later)) ∧ (K (.v (.bool (bif bif bif lives09 then (pCurrent id p1 p2 period).Kind == (pCurrent id p1 (IntKind.wrap IntKind.i64 (p2 + later)) period).Kind && (pCurrent id p1 p2 period).Bits == (pCurrent id p1 (IntKind.wrap IntKind.i64 (p2 + later)) period).Bits else false then bif bif !p1 then true else id.IRK == (0 : Int) then true else bif aCheck (pCurrent id p1 p2 period) == (0 : Int) then (pCurrent id p1 p2 period).Kind == (3 : Int) else false else false then bif p1 then true else (pCurrent id p1 p2 period).Kind == id.Address.Kind && (pCurrent id p1 p2 period).Bits == id.Address.Bits else false))) [.cells [.v (.int .i64 (id.Address.Kind)), .v (.int .u64 (id.Address.Bits)), .v (.int .u64 (id.IRK))], .cells [.v (.int .i64 ((pCurrent id p1 p2 period).Kind)), .v (.int .u64 ((pCurrent id p1 p2 period).Bits))]]))))))))))))))))))))))))))))))))))))))))))))))))))
theorem privacyConstant.nf_ok (id : Identity) (p1 : Bool) (p2 : Int) (period : Int) (later : Int) (K : AV El → List (AObj El) → Prop) : evFun (mkCxI Tryd.prog S tab_lives09 0 false sum_fIdx) 4 9 [Identity.av id, .v (.bool p1), .v (.int .i64 p2), .v (.int .i64 period), .v (.int .i64 later)] [] K = privacyConstant.nf id p1 p2 period later K := by kernel_rfl
theorem privacyConstant.key (id : Identity) (p1 : Bool) (p2 : Int) (period : Int) (later : Int) (v : Bool) (hv : v = privacyConstant id p1 p2 period later) : privacyConstant.nf id p1 p2 period later (fun r' H' => Gives r' H' (privacyConstant.res v) (privacyConstant.news v)) := by
  unfold privacyConstant at hv
  unfold privacyConstant.nf
  delta privacyConstant.t1 privacyConstant.t2
  refine ⟨⟨o3_ok _⟩, ?_⟩
  refine ⟨⟨on_ok _⟩, ?_⟩
  refine ⟨⟨o3_ok _⟩, ?_⟩
  refine ⟨⟨on_ok _⟩, ?_⟩
  refine ⟨⟨o3_ok _⟩, ?_⟩
  refine ⟨⟨o3_ok _⟩, ?_⟩
  refine ⟨⟨by (try clear hv); (try clear q1 q2); (try clear hk); (first | omega | (exact pick_ok _ _) | (exact pick_ok2 _ _) | (exact pick_ok3 _ _) | ((try simp only [decide_eq_true_eq, decide_eq_false_iff_not, Bool.not_eq_true, Bool.not_eq_false, Bool.and_eq_true, Bool.or_eq_true, Bool.not_not, cond_and, cond_or, List.length_append, List.length_cons, List.length_nil] at *); (first | done | ((first | omega | (intros; (try simp only [Bool.not_not, cond_and, cond_or, Bool.and_eq_true, decide_eq_true_eq] at *); (exact band_nn rfl _ _)) | (intros; (try simp only [Bool.not_not, cond_and, cond_or, Bool.and_eq_true, decide_eq_true_eq] at *); (exact (wu64s _).2.1)) | (intros; (try simp only [Bool.not_not, cond_and, cond_or, Bool.and_eq_true, decide_eq_true_eq] at *); (simp only [Bool.or_eq_false_iff, Bool.and_eq_false_iff, decide_eq_false_iff_not, decide_eq_true_eq, bne_iff_ne, beq_iff_eq, bne_eq_false_iff_eq, beq_eq_false_iff_ne, ne_eq, true_and] at *; omega)) | (intros; (try simp only [Bool.not_not, cond_and, cond_or, Bool.and_eq_true, decide_eq_true_eq] at *); (simp only [List.length_drop, List.length_take, List.length_append, List.length_cons, List.length_nil] at *; omega)) | (intros; (try simp only [Bool.not_not, cond_and, cond_or, Bool.and_eq_true, decide_eq_true_eq] at *); (simp_all; omega)) | (intros; omega) | (intros; simp only [Bool.not_not, cond_and, cond_or, Bool.and_eq_true, decide_eq_true_eq] at *; omega) | (intros; simp_all [Bool.not_not]; done))))))⟩, ?_⟩
  refine ⟨⟨o3_ok _⟩, ?_⟩
  refine ⟨⟨o3_ok _⟩, ?_⟩
  refine ⟨⟨o3_ok _⟩, ?_⟩
  refine ⟨⟨o3_ok _⟩, ?_⟩
  refine ⟨⟨on_ok _⟩, ?_⟩
  refine ⟨⟨o3_ok _⟩, ?_⟩
  refine ⟨⟨o3_ok _⟩, ?_⟩
  refine ⟨⟨o3_ok _⟩, ?_⟩
  refine ⟨⟨on_ok _⟩, ?_⟩
  revert hv; refine by_cond2 (fun hb hv => ?_) (fun hb hv => ?_)
  subst hv; exact And.intro (by kernel_rfl) (by kernel_rfl)
  refine ⟨⟨o3_ok _⟩, ?_⟩
  refine ⟨⟨o3_ok _⟩, ?_⟩
  refine ⟨⟨o3_ok _⟩, ?_⟩
  refine ⟨⟨o3_ok _⟩, ?_⟩
  refine ⟨⟨o3_ok _⟩, ?_⟩
  refine ⟨⟨o3_ok _⟩, ?_⟩
  refine ⟨⟨o3_ok _⟩, ?_⟩
  refine ⟨⟨o3_ok _⟩, ?_⟩
  refine ⟨⟨o2_ok _⟩, ?_⟩
  refine ⟨⟨o3_ok _⟩, ?_⟩
  refine ⟨⟨o3_ok _⟩, ?_⟩
  refine ⟨⟨o3_ok _⟩, ?_⟩
  refine ⟨⟨o3_ok _⟩, ?_⟩
  refine ⟨⟨o2_ok _⟩, ?_⟩
  refine ⟨⟨?_⟩, ?_⟩; rotate_left
  refine ⟨⟨o3_ok _⟩, ?_⟩
  refine ⟨⟨o3_ok _⟩, ?_⟩
  refine ⟨⟨o3_ok _⟩, ?_⟩
  refine ⟨⟨o3_ok _⟩, ?_⟩
  refine ⟨⟨o3_ok _⟩, ?_⟩
  refine ⟨⟨o3_ok _⟩, ?_⟩
  refine ⟨⟨o2_ok _⟩, ?_⟩
  refine ⟨⟨?_⟩, ?_⟩; rotate_left
  refine ⟨⟨o2_ok _⟩, ?_⟩
  refine ⟨⟨?_⟩, ?_⟩; rotate_left
  refine ⟨⟨o2_ok _⟩, ?_⟩
  refine ⟨⟨o3_ok _⟩, ?_⟩
  refine ⟨⟨o3_ok _⟩, ?_⟩
  refine ⟨⟨o3_ok _⟩, ?_⟩
  refine ⟨⟨o3_ok _⟩, ?_⟩
  refine ⟨⟨o2_ok _⟩, ?_⟩
  refine ⟨⟨?_⟩, ?_⟩; rotate_left
  refine ⟨⟨o2_ok _⟩, ?_⟩
  subst hv; exact And.intro (by kernel_rfl) (by kernel_rfl)
  all_goals ((try clear hv); (try clear q1 q2); (try clear hk); (first | omega | (exact pick_ok _ _) | (exact pick_ok2 _ _) | (exact pick_ok3 _ _) | ((try simp only [decide_eq_true_eq, decide_eq_false_iff_not, Bool.not_eq_true, Bool.not_eq_false, Bool.and_eq_true, Bool.or_eq_true, Bool.not_not, cond_and, cond_or, List.length_append, List.length_cons, List.length_nil] at *); (first | done | (have := wi64s (p2 + later); (first | omega | (intros; (try simp only [Bool.not_not, cond_and, cond_or, Bool.and_eq_true, decide_eq_true_eq] at *); (exact band_nn rfl _ _)) | (intros; (try simp only [Bool.not_not, cond_and, cond_or, Bool.and_eq_true, decide_eq_true_eq] at *); (exact (wu64s _).2.1)) | (intros; (try simp only [Bool.not_not, cond_and, cond_or, Bool.and_eq_true, decide_eq_true_eq] at *); (simp only [Bool.or_eq_false_iff, Bool.and_eq_false_iff, decide_eq_false_iff_not, decide_eq_true_eq, bne_iff_ne, beq_iff_eq, bne_eq_false_iff_eq, beq_eq_false_iff_ne, ne_eq, true_and] at *; omega)) | (intros; (try simp only [Bool.not_not, cond_and, cond_or, Bool.and_eq_true, decide_eq_true_eq] at *); (simp only [List.length_drop, List.length_take, List.length_append, List.length_cons, List.length_nil] at *; omega)) | (intros; (try simp only [Bool.not_not, cond_and, cond_or, Bool.and_eq_true, decide_eq_true_eq] at *); (simp_all; omega)) | (intros; omega) | (intros; simp only [Bool.not_not, cond_and, cond_or, Bool.and_eq_true, decide_eq_true_eq] at *; omega) | (intros; simp_all [Bool.not_not]; done)))))))
def privacyConstant.ct : Ct El := ctOf privacyConstant.dec (fun _ => []) (fun x => privacyConstant.res (privacyConstant x.1 x.2.1 x.2.2.1 x.2.2.2.1 x.2.2.2.2)) (fun x => privacyConstant.news (privacyConstant x.1 x.2.1 x.2.2.1 x.2.2.2.1 x.2.2.2.2))
theorem privacyConstant.ok : CtOk (mkCx Tryd.prog S [] 0) 9 privacyConstant.ct := ct_mk (C := (mkCxI Tryd.prog S tab_lives09 0 false sum_fIdx)) (mkCxI_ok sigOk mixed tab_lives09_ok 0 false sum_fIdx_ok) privacyConstant.dec_ok (fun x => rfl) 4 (fun x _ => (privacyConstant.nf_ok x.1 x.2.1 x.2.2.1 x.2.2.2.1 x.2.2.2.2 _).mpr (privacyConstant.key x.1 x.2.1 x.2.2.1 x.2.2.2.1 x.2.2.2.2 _ rfl))
def tab_privacyConstant : List (FuncId × Ct El) := (9, privacyConstant.ct) :: tab_privacyPeriods
theorem tab_privacyConstant_ok : TabOk Tryd.prog S tab_privacyConstant := ⟨privacyConstant.ok, by kernel_rfl, tab_privacyPeriods_ok⟩

end Go.Aw.W
