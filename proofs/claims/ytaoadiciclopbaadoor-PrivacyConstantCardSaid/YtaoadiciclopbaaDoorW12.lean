/- Contracts of the seat (printed by ct.py). -/
import Derived.Test.YtaoadiciclopbaaDoorW11
set_option linter.unusedVariables false
set_option linter.unusedSimpArgs false
set_option maxRecDepth 20000
set_option maxHeartbeats 1000000
namespace Go.Aw.W
open Go Go.Aw Go.Proofs
attribute [local irreducible] evCode evFun evOps evDs evOne ctxK loopK loopB subC bodyC headS okH roundK

/-! wireless/privacy.Make -/
def pMake.res (r : Address × Int) : AV El := .tup [Address.av (r.1), .v (.int .i64 (r.2))]
def pMake.news (r : Address × Int) : List (AObj El) := []
def pMake (irk : Int) (prand : Int) : Address × Int := cond (irk == (0 : Int)) (((⟨((0 : Int)), ((0 : Int))⟩ : Address), (17 : Int))) (cond (bif decide (prand < (1 : Int)) then true else decide ((4194302 : Int) < prand)) (((⟨((0 : Int)), ((0 : Int))⟩ : Address), (5 : Int))) (((⟨((aRandom (3 : Int) (borK IntKind.u64 (shlK IntKind.u64 (IntKind.wrap IntKind.u64 prand) (24 : Int)) (pHash irk (IntKind.wrap IntKind.u64 prand)))).Kind), ((aRandom (3 : Int) (borK IntKind.u64 (shlK IntKind.u64 (IntKind.wrap IntKind.u64 prand) (24 : Int)) (pHash irk (IntKind.wrap IntKind.u64 prand)))).Bits)⟩ : Address), (0 : Int))))
def pMake.dec (cs : List (AV El)) : Option (Int × Int) := popI .u64 cs fun a0 c0 => popI .u32 c0 fun a1 c1 => popE c1 (a0, a1)
def pMake.enc (x : Int × Int) : List (AV El) := [.v (.int .u64 x.1), .v (.int .u32 x.2)]
theorem pMake.dec_ok : ∀ cs x, pMake.dec cs = some x → Imp (S := S) cs (pMake.enc x) := by
  intro cs x h
  unfold pMake.dec at h
  obtain ⟨a0, c0, rfl, h0⟩ := popI_some (S := S) h
  obtain ⟨a1, c1, rfl, h1⟩ := popI_some (S := S) h0
  obtain ⟨rfl, rfl⟩ := popE_some (S := S) h1
  exact (.cons (.cons (.refl _)))
def pMake.nf (irk : Int) (prand : Int) (K : AV El → List (AObj El) → Prop) : Prop := cond (irk == (0 : Int)) (K (.tup [.agg [.v (.int .i64 ((0 : Int))), .v (.int .u64 ((0 : Int)))], .v (.int .i64 ((17 : Int)))]) [.cells [.v (.int .i64 ((0 : Int))), .v (.int .u64 ((0 : Int)))]]) (Ob (o3 (!decide (prand < (1 : Int)))) ∧ (Ob (on (decide (prand < (1 : Int)))) ∧ (cond (bif decide (prand < (1 : Int)) then true else decide ((4194302 : Int) < prand)) (K (.tup [.agg [.v (.int .i64 ((0 : Int))), .v (.int .u64 ((0 : Int)))], .v (.int .i64 ((5 : Int)))]) [.cells [.v (.int .i64 ((0 : Int))), .v (.int .u64 ((0 : Int)))]]) (Ob ((0 : Int) ≤ (24 : Int)) ∧ (K (.tup [.agg [.v (.int .i64 ((aRandom (3 : Int) (borK IntKind.u64 (shlK IntKind.u64 (IntKind.wrap IntKind.u64 prand) (24 : Int)) (pHash irk (IntKind.wrap IntKind.u64 prand)))).Kind)), .v (.int .u64 ((aRandom (3 : Int) (borK IntKind.u64 (shlK IntKind.u64 (IntKind.wrap IntKind.u64 prand) (24 : Int)) (pHash irk (IntKind.wrap IntKind.u64 prand)))).Bits))], .v (.int .i64 ((0 : Int)))]) [.cells [.v (.int .i64 ((aRandom (3 : Int) (borK IntKind.u64 (shlK IntKind.u64 (IntKind.wrap IntKind.u64 prand) (24 : Int)) (pHash irk (IntKind.wrap IntKind.u64 prand)))).Kind)), .v (.int .u64 ((aRandom (3 : Int) (borK IntKind.u64 (shlK IntKind.u64 (IntKind.wrap IntKind.u64 prand) (24 : Int)) (pHash irk (IntKind.wrap IntKind.u64 prand)))).Bits))]])))))
theorem pMake.nf_ok (irk : Int) (prand : Int) (K : AV El → List (AObj El) → Prop) : evFun (mkCxI Tryd.prog S tab_r9Find 0 false sum_fIdx) 4 10 [.v (.int .u64 irk), .v (.int .u32 prand)] [] K = pMake.nf irk prand K := by kernel_rfl
theorem pMake.key (irk : Int) (prand : Int) (v : Address × Int) (hv : v = pMake irk prand) : pMake.nf irk prand (fun r' H' => Gives r' H' (pMake.res v) (pMake.news v)) := by
  unfold pMake at hv
  unfold pMake.nf
  revert hv; refine by_cond2 (fun hb hv => ?_) (fun hb hv => ?_)
  · subst hv; exact And.intro (by kernel_rfl) (by kernel_rfl)
  · refine ⟨⟨o3_ok _⟩, ?_⟩
    refine ⟨⟨on_ok _⟩, ?_⟩
    revert hv; refine by_cond2 (fun hb hv => ?_) (fun hb hv => ?_)
    · subst hv; exact And.intro (by kernel_rfl) (by kernel_rfl)
    · refine ⟨⟨by (try clear hv); (try clear q1 q2); (try clear hk); (first | omega | ((try simp only [decide_eq_true_eq, decide_eq_false_iff_not, Bool.not_eq_true, Bool.not_eq_false, Bool.and_eq_true, Bool.or_eq_true, Bool.not_not, cond_and, cond_or, List.length_append, List.length_cons, List.length_nil] at *); (first | omega | (intros; (try simp only [Bool.not_not, cond_and, cond_or, Bool.and_eq_true, decide_eq_true_eq] at *); (exact ⟨by decide, by simp⟩)) | (intros; (try simp only [Bool.not_not, cond_and, cond_or, Bool.and_eq_true, decide_eq_true_eq] at *); (exact band_nn rfl _ _)) | (intros; (try simp only [Bool.not_not, cond_and, cond_or, Bool.and_eq_true, decide_eq_true_eq] at *); (exact (wu64s _).2.1)) | (intros; (try simp only [Bool.not_not, cond_and, cond_or, Bool.and_eq_true, decide_eq_true_eq] at *); (simp only [Bool.or_eq_false_iff, Bool.and_eq_false_iff, decide_eq_false_iff_not, decide_eq_true_eq, bne_iff_ne, beq_iff_eq, bne_eq_false_iff_eq, beq_eq_false_iff_ne, ne_eq, true_and] at *; omega)) | (intros; (try simp only [Bool.not_not, cond_and, cond_or, Bool.and_eq_true, decide_eq_true_eq] at *); (simp only [List.length_drop, List.length_take, List.length_append, List.length_cons, List.length_nil] at *; omega)) | (intros; omega) | (intros; simp only [Bool.not_not, cond_and, cond_or, Bool.and_eq_true, decide_eq_true_eq] at *; omega) | (intros; simp_all [Bool.not_not]; done))))⟩, ?_⟩
      subst hv; exact And.intro (by kernel_rfl) (by kernel_rfl)
def pMake.ct : Ct El := ctOf pMake.dec (fun _ => []) (fun x => pMake.res (pMake x.1 x.2)) (fun x => pMake.news (pMake x.1 x.2))
theorem pMake.ok : CtOk (mkCx Tryd.prog S [] 0) 10 pMake.ct := ct_mk (C := (mkCxI Tryd.prog S tab_r9Find 0 false sum_fIdx)) (mkCxI_ok sigOk mixed tab_r9Find_ok 0 false sum_fIdx_ok) pMake.dec_ok (fun x => rfl) 4 (fun x _ => (pMake.nf_ok x.1 x.2 _).mpr (pMake.key x.1 x.2 _ rfl))
def tab_pMake : List (FuncId × Ct El) := (10, pMake.ct) :: tab_r9Find
theorem tab_pMake_ok : TabOk Tryd.prog S tab_pMake := ⟨pMake.ok, by kernel_rfl, tab_r9Find_ok⟩

/-! wireless/wirelessref09.Make -/
def r9Make.res (r : Address × Int) : AV El := .tup [Address.av (r.1), .v (.int .i64 (r.2))]
def r9Make.news (r : Address × Int) : List (AObj El) := []
def r9Make (irk : Int) (prand : Int) : Address × Int := cond (irk == (0 : Int)) (((⟨((0 : Int)), ((0 : Int))⟩ : Address), (17 : Int))) (cond (bif decide (prand < (1 : Int)) then true else decide ((4194302 : Int) < prand)) (((⟨((0 : Int)), ((0 : Int))⟩ : Address), (5 : Int))) (((⟨((3 : Int)), (IntKind.wrap IntKind.u64 (IntKind.wrap IntKind.u64 ((70368744177664 : Int) + IntKind.wrap IntKind.u64 (IntKind.wrap IntKind.u64 prand * (16777216 : Int))) + r9Hash irk (IntKind.wrap IntKind.u64 prand)))⟩ : Address), (0 : Int))))
def r9Make.dec (cs : List (AV El)) : Option (Int × Int) := popI .u64 cs fun a0 c0 => popI .u32 c0 fun a1 c1 => popE c1 (a0, a1)
def r9Make.enc (x : Int × Int) : List (AV El) := [.v (.int .u64 x.1), .v (.int .u32 x.2)]
theorem r9Make.dec_ok : ∀ cs x, r9Make.dec cs = some x → Imp (S := S) cs (r9Make.enc x) := by
  intro cs x h
  unfold r9Make.dec at h
  obtain ⟨a0, c0, rfl, h0⟩ := popI_some (S := S) h
  obtain ⟨a1, c1, rfl, h1⟩ := popI_some (S := S) h0
  obtain ⟨rfl, rfl⟩ := popE_some (S := S) h1
  exact (.cons (.cons (.refl _)))
def r9Make.nf (irk : Int) (prand : Int) (K : AV El → List (AObj El) → Prop) : Prop := cond (irk == (0 : Int)) (K (.tup [.agg [.v (.int .i64 ((0 : Int))), .v (.int .u64 ((0 : Int)))], .v (.int .i64 ((17 : Int)))]) [.cells [.v (.int .i64 ((0 : Int))), .v (.int .u64 ((0 : Int)))]]) (Ob (o3 (!decide (prand < (1 : Int)))) ∧ (Ob (on (decide (prand < (1 : Int)))) ∧ (cond (bif decide (prand < (1 : Int)) then true else decide ((4194302 : Int) < prand)) (K (.tup [.agg [.v (.int .i64 ((0 : Int))), .v (.int .u64 ((0 : Int)))], .v (.int .i64 ((5 : Int)))]) [.cells [.v (.int .i64 ((0 : Int))), .v (.int .u64 ((0 : Int)))]]) (K (.tup [.agg [.v (.int .i64 ((3 : Int))), .v (.int .u64 (IntKind.wrap IntKind.u64 (IntKind.wrap IntKind.u64 ((70368744177664 : Int) + IntKind.wrap IntKind.u64 (IntKind.wrap IntKind.u64 prand * (16777216 : Int))) + r9Hash irk (IntKind.wrap IntKind.u64 prand))))], .v (.int .i64 ((0 : Int)))]) [.cells [.v (.int .i64 ((3 : Int))), .v (.int .u64 (IntKind.wrap IntKind.u64 (IntKind.wrap IntKind.u64 ((70368744177664 : Int) + IntKind.wrap IntKind.u64 (IntKind.wrap IntKind.u64 prand * (16777216 : Int))) + r9Hash irk (IntKind.wrap IntKind.u64 prand))))]]))))
theorem r9Make.nf_ok (irk : Int) (prand : Int) (K : AV El → List (AObj El) → Prop) : evFun (mkCxI Tryd.prog S tab_r9Find 0 false sum_fIdx) 4 11 [.v (.int .u64 irk), .v (.int .u32 prand)] [] K = r9Make.nf irk prand K := by kernel_rfl
theorem r9Make.key (irk : Int) (prand : Int) (v : Address × Int) (hv : v = r9Make irk prand) : r9Make.nf irk prand (fun r' H' => Gives r' H' (r9Make.res v) (r9Make.news v)) := by
  unfold r9Make at hv
  unfold r9Make.nf
  revert hv; refine by_cond2 (fun hb hv => ?_) (fun hb hv => ?_)
  · subst hv; exact And.intro (by kernel_rfl) (by kernel_rfl)
  · refine ⟨⟨o3_ok _⟩, ?_⟩
    refine ⟨⟨on_ok _⟩, ?_⟩
    revert hv; refine by_cond2 (fun hb hv => ?_) (fun hb hv => ?_)
    · subst hv; exact And.intro (by kernel_rfl) (by kernel_rfl)
    · subst hv; exact And.intro (by kernel_rfl) (by kernel_rfl)
def r9Make.ct : Ct El := ctOf r9Make.dec (fun _ => []) (fun x => r9Make.res (r9Make x.1 x.2)) (fun x => r9Make.news (r9Make x.1 x.2))
theorem r9Make.ok : CtOk (mkCx Tryd.prog S [] 0) 11 r9Make.ct := ct_mk (C := (mkCxI Tryd.prog S tab_r9Find 0 false sum_fIdx)) (mkCxI_ok sigOk mixed tab_r9Find_ok 0 false sum_fIdx_ok) r9Make.dec_ok (fun x => rfl) 4 (fun x _ => (r9Make.nf_ok x.1 x.2 _).mpr (r9Make.key x.1 x.2 _ rfl))
def tab_r9Make : List (FuncId × Ct El) := (11, r9Make.ct) :: tab_pMake
theorem tab_r9Make_ok : TabOk Tryd.prog S tab_r9Make := ⟨r9Make.ok, by kernel_rfl, tab_pMake_ok⟩

end Go.Aw.W
