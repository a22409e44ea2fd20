/- Contracts of the seat (printed by ct.py). -/
import Derived.Test.YtaoadiciclopbaaDoorW14
set_option linter.unusedVariables false
set_option linter.unusedSimpArgs false
set_option maxRecDepth 20000
set_option maxHeartbeats 1000000
namespace Go.Aw.W
open Go Go.Aw Go.Proofs
attribute [local irreducible] evCode evFun evOps evDs evOne ctxK loopK loopB subC bodyC headS okH roundK

/-! wireless/wirelesslaw09.lives -/
def lives09.res (r : Bool) : AV El := .v (.bool (r))
def lives09.news (r : Bool) : List (AObj El) := []
def lives09  : Bool := true
def lives09.dec (cs : List (AV El)) : Option (Unit) := popE cs ()
def lives09.enc (x : Unit) : List (AV El) := []
theorem lives09.dec_ok : ∀ cs x, lives09.dec cs = some x → Imp (S := S) cs (lives09.enc x) := by
  intro cs x h
  unfold lives09.dec at h
  obtain ⟨rfl, rfl⟩ := popE_some (S := S) h
  exact (.refl _)
def lives09.nf (K : AV El → List (AObj El) → Prop) : Prop := Ob (o3 (true)) ∧ (Ob (o2 (true)) ∧ (Ob (o3 (true)) ∧ (Ob (o2 (true)) ∧ (Ob (o3 (true)) ∧ (Ob (o3 (true)) ∧ (Ob (o2 (true)) ∧ (Ob (o3 (true)) ∧ (Ob (o3 (true)) ∧ (Ob (true = true → (16777216 : Int) ≠ (0 : Int)) ∧ (Ob (o3 (true)) ∧ (Ob (o2 (true)) ∧ (Ob (o3 (true)) ∧ (Ob (o2 (true)) ∧ (Ob (true = true) ∧ (Ob (o3 (true)) ∧ (Ob (o3 (true)) ∧ (Ob (o2 (true)) ∧ (Ob (o3 (true)) ∧ (Ob (o2 (true)) ∧ (K (.v (.bool (true))) [.cells [.v (.int .i64 ((pMake (5 : Int) (77 : Int)).fst.Kind)), .v (.int .u64 ((pMake (5 : Int) (77 : Int)).fst.Bits))], .cells [.v (.int .i64 ((pMake (5 : Int) (4194303 : Int)).fst.Kind)), .v (.int .u64 ((pMake (5 : Int) (4194303 : Int)).fst.Bits))], .cells [.v (.int .i64 ((pMake (0 : Int) (5 : Int)).fst.Kind)), .v (.int .u64 ((pMake (0 : Int) (5 : Int)).fst.Bits))], .row 38 ([{ Address := { Kind := (0 : Int), Bits := (0 : Int) : Address }, IRK := (5 : Int) : Identity }] : List (El 38))]))))))))))))))))))))
theorem lives09.nf_ok  (K : AV El → List (AObj El) → Prop) : evFun (mkCxI Tryd.prog S tab_r9Current 0 false sum_fIdx) 4 12 [] [] K = lives09.nf  K := by kernel_rfl
theorem lives09.key  (v : Bool) (hv : v = lives09 ) : lives09.nf  (fun r' H' => Gives r' H' (lives09.res v) (lives09.news v)) := by
  unfold lives09 at hv
  unfold lives09.nf
  refine ⟨⟨o3_ok _⟩, ?_⟩
  refine ⟨⟨o2_ok _⟩, ?_⟩
  refine ⟨⟨o3_ok _⟩, ?_⟩
  refine ⟨⟨o2_ok _⟩, ?_⟩
  refine ⟨⟨o3_ok _⟩, ?_⟩
  refine ⟨⟨o3_ok _⟩, ?_⟩
  refine ⟨⟨o2_ok _⟩, ?_⟩
  refine ⟨⟨o3_ok _⟩, ?_⟩
  refine ⟨⟨o3_ok _⟩, ?_⟩
  refine ⟨⟨?_⟩, ?_⟩; rotate_left
  refine ⟨⟨o3_ok _⟩, ?_⟩
  refine ⟨⟨o2_ok _⟩, ?_⟩
  refine ⟨⟨o3_ok _⟩, ?_⟩
  refine ⟨⟨o2_ok _⟩, ?_⟩
  refine ⟨⟨?_⟩, ?_⟩; rotate_left
  refine ⟨⟨o3_ok _⟩, ?_⟩
  refine ⟨⟨o3_ok _⟩, ?_⟩
  refine ⟨⟨o2_ok _⟩, ?_⟩
  refine ⟨⟨o3_ok _⟩, ?_⟩
  refine ⟨⟨o2_ok _⟩, ?_⟩
  subst hv; exact And.intro (by kernel_rfl) (by kernel_rfl)
  all_goals ((try clear hv); (try clear q1 q2); (try clear hk); (first | omega | ((try simp only [decide_eq_true_eq, decide_eq_false_iff_not, Bool.not_eq_true, Bool.not_eq_false, Bool.and_eq_true, Bool.or_eq_true, Bool.not_not, cond_and, cond_or, List.length_append, List.length_cons, List.length_nil] at *); (first | done | ((first | omega | (intros; (try simp only [Bool.not_not, cond_and, cond_or, Bool.and_eq_true, decide_eq_true_eq] at *); (exact band_nn rfl _ _)) | (intros; (try simp only [Bool.not_not, cond_and, cond_or, Bool.and_eq_true, decide_eq_true_eq] at *); (exact (wu64s _).2.1)) | (intros; (try simp only [Bool.not_not, cond_and, cond_or, Bool.and_eq_true, decide_eq_true_eq] at *); (simp only [Bool.or_eq_false_iff, Bool.and_eq_false_iff, decide_eq_false_iff_not, decide_eq_true_eq, bne_iff_ne, beq_iff_eq, bne_eq_false_iff_eq, beq_eq_false_iff_ne, ne_eq, true_and] at *; omega)) | (intros; (try simp only [Bool.not_not, cond_and, cond_or, Bool.and_eq_true, decide_eq_true_eq] at *); (simp only [List.length_drop, List.length_take, List.length_append, List.length_cons, List.length_nil] at *; omega)) | (intros; omega) | (intros; simp only [Bool.not_not, cond_and, cond_or, Bool.and_eq_true, decide_eq_true_eq] at *; omega) | (intros; simp_all [Bool.not_not]; done)))))))
def lives09.ct : Ct El := ctOf lives09.dec (fun _ => []) (fun x => lives09.res (lives09)) (fun x => lives09.news (lives09))
theorem lives09.ok : CtOk (mkCx Tryd.prog S [] 0) 12 lives09.ct := ct_mk (C := (mkCxI Tryd.prog S tab_r9Current 0 false sum_fIdx)) (mkCxI_ok sigOk mixed tab_r9Current_ok 0 false sum_fIdx_ok) lives09.dec_ok (fun x => rfl) 4 (fun x _ => (lives09.nf_ok  _).mpr (lives09.key  _ rfl))
def tab_lives09 : List (FuncId × Ct El) := (12, lives09.ct) :: tab_r9Current
theorem tab_lives09_ok : TabOk Tryd.prog S tab_lives09 := ⟨lives09.ok, by kernel_rfl, tab_r9Current_ok⟩

end Go.Aw.W
