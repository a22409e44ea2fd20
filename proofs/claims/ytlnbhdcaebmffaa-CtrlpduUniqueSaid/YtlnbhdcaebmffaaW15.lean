/- Contracts of the seat (printed by ct.py). -/
import Derived.Test.YtlnbhdcaebmffaaW14
set_option linter.unusedVariables false
set_option linter.unusedSimpArgs false
set_option maxRecDepth 20000
set_option maxHeartbeats 1000000
namespace Go.Aw.W
open Go Go.Aw Go.Proofs
attribute [local irreducible] evCode evFun evOps evDs evOne ctxK loopK loopB subC bodyC headS okH roundK
attribute [local irreducible] cCheck r26Check cEncode r26Encode cDecode r26Decode
/-! wireless/wirelesslaw26.exampleHolds -/
def ex26.res (r : Bool) : AV El := .v (.bool (r))
def ex26.news (r : Bool) : List (AObj El) := []
def ex26.L (e v : Bool) : Prop := ex26.res e = ex26.res v ∧ ex26.news e = ex26.news v
def ex26  : Bool := true
def ex26.dec (cs : List (AV El)) : Option (Unit) := popE cs ()
def ex26.enc (x : Unit) : List (AV El) := []
theorem ex26.dec_ok : ∀ cs x, ex26.dec cs = some x → Imp (S := S) cs (ex26.enc x) := by
  intro cs x h
  unfold ex26.dec at h
  obtain ⟨rfl, rfl⟩ := popE_some (S := S) h
  exact (.refl _)
def ex26.nf (v : Bool) : Prop := Ob (List.length [(20 : Int), (26 : Int)] ≤ (1000 : Nat)) ∧ (Ob (List.length [(9 : Int)] ≤ (1000 : Nat)) ∧ (Ob (List.length [(5 : Int), (0 : Int)] ≤ (1000 : Nat)) ∧ (Ob (List.length [(10 : Int)] ≤ (1000 : Nat)) ∧ (Ob (o3 (true)) ∧ (Ob (o2 (true)) ∧ (Ob (o3 (true)) ∧ (Ob (o2 (true)) ∧ (Ob (o3 (true)) ∧ (Ob (o2 (true)) ∧ (Ob (o3 (true)) ∧ (Ob (o2 (true)) ∧ (Ob (o3 (true)) ∧ (Ob (o2 (true)) ∧ (Ob (o3 (true)) ∧ (Ob (o2 (true)) ∧ (Ob (o3 (true)) ∧ (Ob (o2 (true)) ∧ (ex26.L (true) v))))))))))))))))))
theorem ex26.nf_ok  (v : Bool) : evFun (mkCx Try.prog S tab_r26Decode 0) 4 16 [] [] (fun r' H' => Gives r' H' (ex26.res v) (ex26.news v)) = ex26.nf  v := by kernel_rfl
theorem ex26.key  (v : Bool) (hv : v = ex26 ) : ex26.nf  v := by
  unfold ex26 at hv
  unfold ex26.nf
  refine ⟨⟨?_⟩, ?_⟩; rotate_left
  refine ⟨⟨?_⟩, ?_⟩; rotate_left
  refine ⟨⟨?_⟩, ?_⟩; rotate_left
  refine ⟨⟨?_⟩, ?_⟩; rotate_left
  refine ⟨⟨o3_ok _⟩, ?_⟩
  refine ⟨⟨o2_ok _⟩, ?_⟩
  refine ⟨⟨o3_ok _⟩, ?_⟩
  refine ⟨⟨o2_ok _⟩, ?_⟩
  refine ⟨⟨o3_ok _⟩, ?_⟩
  refine ⟨⟨o2_ok _⟩, ?_⟩
  refine ⟨⟨o3_ok _⟩, ?_⟩
  refine ⟨⟨o2_ok _⟩, ?_⟩
  refine ⟨⟨o3_ok _⟩, ?_⟩
  refine ⟨⟨o2_ok _⟩, ?_⟩
  refine ⟨⟨o3_ok _⟩, ?_⟩
  refine ⟨⟨o2_ok _⟩, ?_⟩
  refine ⟨⟨o3_ok _⟩, ?_⟩
  refine ⟨⟨o2_ok _⟩, ?_⟩
  subst hv; exact ⟨rfl, rfl⟩
  all_goals ((try clear hv); (try clear q1 q2); (try clear hk); (first | omega | (decide +kernel) | ((try simp only [decide_eq_true_eq, decide_eq_false_iff_not, Bool.not_eq_true, Bool.not_eq_false, Bool.and_eq_true, Bool.or_eq_true, Bool.not_not, cond_and, cond_or, List.length_append, List.length_cons, List.length_nil] at *); (first | done | ((first | omega | (intros; (try simp only [Bool.not_not, cond_and, cond_or, Bool.and_eq_true, decide_eq_true_eq] at *); (exact band_nn rfl _ _)) | (intros; (try simp only [Bool.not_not, cond_and, cond_or, Bool.and_eq_true, decide_eq_true_eq] at *); (exact (wu64s _).2.1)) | (intros; (try simp only [Bool.not_not, cond_and, cond_or, Bool.and_eq_true, decide_eq_true_eq] at *); (simp only [Bool.or_eq_false_iff, Bool.and_eq_false_iff, decide_eq_false_iff_not, decide_eq_true_eq, bne_iff_ne, beq_iff_eq, bne_eq_false_iff_eq, beq_eq_false_iff_ne, ne_eq, true_and] at *; omega)) | (intros; (try simp only [Bool.not_not, cond_and, cond_or, Bool.and_eq_true, decide_eq_true_eq] at *); (simp only [List.length_drop, List.length_take, List.length_append, List.length_cons, List.length_nil] at *; omega)) | (intros; (try simp only [Bool.not_not, cond_and, cond_or, Bool.and_eq_true, decide_eq_true_eq] at *); exact r1Power_ne (by omega) (by omega)) | (intros; (try simp only [Bool.not_not, cond_and, cond_or, Bool.and_eq_true, decide_eq_true_eq] at *); exact r1Power_ne (by omega) (by omega)) | (intros; omega) | (intros; simp only [sized_iff, Bool.not_not, cond_and, cond_or, Bool.and_eq_true, decide_eq_true_eq] at *; omega) | (intros; simp_all [sized_iff, Bool.not_not]; done)))))))
def ex26.ct : Ct El := ctOf ex26.dec (fun _ => []) (fun x => ex26.res (ex26)) (fun x => ex26.news (ex26))
theorem ex26.ok : CtOk (mkCx Try.prog S [] 0) 16 ex26.ct := ct_mk (C := (mkCx Try.prog S tab_r26Decode 0)) (mkCx_ok sigOk mixed tab_r26Decode_ok 0) ex26.dec_ok (fun x => rfl) 4 (fun x _ => (ex26.nf_ok  _).mpr (ex26.key  _ rfl))
def tab_ex26 : List (FuncId × Ct El) := (16, ex26.ct) :: tab_r26Decode
theorem tab_ex26_ok : TabOk Try.prog S tab_ex26 := ⟨ex26.ok, by kernel_rfl, tab_r26Decode_ok⟩

end Go.Aw.W
