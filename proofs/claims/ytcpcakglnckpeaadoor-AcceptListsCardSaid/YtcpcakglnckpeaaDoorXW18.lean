/- Contracts of the seat (printed by ct.py). -/
import Derived.Test.YtcpcakglnckpeaaDoorXW17
set_option linter.unusedVariables false
set_option linter.unusedSimpArgs false
set_option maxRecDepth 20000
set_option maxHeartbeats 1000000
namespace Go.Aw.W
open Go Go.Aw Go.Proofs
attribute [local irreducible] evCode evFun evOps evDs evOne ctxK loopK loopB subC bodyC headS okH roundK

/-! wireless/wirelesslaw20.lives -/
def lives20.res (r : Bool) : AV El := .v (.bool (r))
def lives20.news (r : Bool) : List (AObj El) := []
def lives20  : Bool := true
def lives20.dec (cs : List (AV El)) : Option (Unit) := popE cs ()
def lives20.enc (x : Unit) : List (AV El) := []
theorem lives20.dec_ok : ∀ cs x, lives20.dec cs = some x → Imp (S := S) cs (lives20.enc x) := by
  intro cs x h
  unfold lives20.dec at h
  obtain ⟨rfl, rfl⟩ := popE_some (S := S) h
  exact (.refl _)
def lives20.nf (K : AV El → List (AObj El) → Prop) : Prop := Ob ((0 : Nat) ≤ (4611686018427 : Nat)) ∧ (Ob (List.length [{ Kind := (1 : Int), Bits := (5 : Int) : Address }] ≤ (4611686018427 : Nat)) ∧ (Ob (List.length [{ Kind := (1 : Int), Bits := (5 : Int) : Address }] ≤ (4611686018427 : Nat)) ∧ (Ob (List.length [{ Kind := (1 : Int), Bits := (5 : Int) : Address }] ≤ (4611686018427 : Nat)) ∧ (Ob (o3 (r20Same (accAdd [] { Kind := (1 : Int), Bits := (5 : Int) : Address }).fst [{ Kind := (1 : Int), Bits := (5 : Int) : Address }])) ∧ (Ob (o2 (r20Same (accAdd [] { Kind := (1 : Int), Bits := (5 : Int) : Address }).fst [{ Kind := (1 : Int), Bits := (5 : Int) : Address }])) ∧ (Ob (o3 (true)) ∧ (Ob (o3 (true)) ∧ (Ob (o2 (true)) ∧ (Ob (o3 (true)) ∧ (Ob (o2 (true)) ∧ (Ob (o3 (true)) ∧ (Ob (o2 (true)) ∧ (Ob (o3 (true)) ∧ (Ob (o3 (true)) ∧ (Ob (o2 (true)) ∧ (Ob (o3 (true)) ∧ (Ob (o2 (true)) ∧ (Ob (o3 (true)) ∧ (Ob (o3 (true)) ∧ (Ob (o2 (true)) ∧ (Ob (o3 (true)) ∧ (Ob (o3 (true)) ∧ (Ob (o3 (true)) ∧ (Ob (o2 (true)) ∧ (Ob (o3 (true)) ∧ (Ob (o2 (true)) ∧ (Ob (o3 (true)) ∧ (Ob (o3 (true)) ∧ (Ob (o2 (true)) ∧ (K (.v (.bool (true))) [.cells [.v (.int .i64 ((1 : Int))), .v (.int .u64 ((5 : Int)))], .cells [.v (.int .i64 ((1 : Int))), .v (.int .u64 ((6 : Int)))], .row 25 ((accAdd [] { Kind := (1 : Int), Bits := (5 : Int) : Address }).fst : List (El 25)), .row 25 ([{ Kind := (1 : Int), Bits := (5 : Int) : Address }] : List (El 25)), .row 25 ((accAdd [{ Kind := (1 : Int), Bits := (5 : Int) : Address }] { Kind := (1 : Int), Bits := (5 : Int) : Address }).fst : List (El 25)), .frozen 25 ([{ Kind := (1 : Int), Bits := (5 : Int) : Address }] : List (El 25)), .frozen 25 ([{ Kind := (1 : Int), Bits := (5 : Int) : Address }] : List (El 25)), .row 25 ([{ Kind := (1 : Int), Bits := (5 : Int) : Address }] : List (El 25))]))))))))))))))))))))))))))))))
theorem lives20.nf_ok  (K : AV El → List (AObj El) → Prop) : evFun (mkCxI Tryd.prog S tab_r20Allows 0 true sum_dDel) 4 15 [] [] K = lives20.nf  K := by kernel_rfl
theorem lives20.key  (v : Bool) (hv : v = lives20 ) : lives20.nf  (fun r' H' => Gives r' H' (lives20.res v) (lives20.news v)) := by
  unfold lives20 at hv
  unfold lives20.nf
  refine ⟨⟨?_⟩, ?_⟩; rotate_left
  refine ⟨⟨?_⟩, ?_⟩; rotate_left
  refine ⟨⟨?_⟩, ?_⟩; rotate_left
  refine ⟨⟨?_⟩, ?_⟩; rotate_left
  refine ⟨⟨o3_ok _⟩, ?_⟩
  refine ⟨⟨o2_ok _⟩, ?_⟩
  refine ⟨⟨o3_ok _⟩, ?_⟩
  refine ⟨⟨o3_ok _⟩, ?_⟩
  refine ⟨⟨o2_ok _⟩, ?_⟩
  refine ⟨⟨o3_ok _⟩, ?_⟩
  refine ⟨⟨o2_ok _⟩, ?_⟩
  refine ⟨⟨o3_ok _⟩, ?_⟩
  refine ⟨⟨o2_ok _⟩, ?_⟩
  refine ⟨⟨o3_ok _⟩, ?_⟩
  refine ⟨⟨o3_ok _⟩, ?_⟩
  refine ⟨⟨o2_ok _⟩, ?_⟩
  refine ⟨⟨o3_ok _⟩, ?_⟩
  refine ⟨⟨o2_ok _⟩, ?_⟩
  refine ⟨⟨o3_ok _⟩, ?_⟩
  refine ⟨⟨o3_ok _⟩, ?_⟩
  refine ⟨⟨o2_ok _⟩, ?_⟩
  refine ⟨⟨o3_ok _⟩, ?_⟩
  refine ⟨⟨o3_ok _⟩, ?_⟩
  refine ⟨⟨o3_ok _⟩, ?_⟩
  refine ⟨⟨o2_ok _⟩, ?_⟩
  refine ⟨⟨o3_ok _⟩, ?_⟩
  refine ⟨⟨o2_ok _⟩, ?_⟩
  refine ⟨⟨o3_ok _⟩, ?_⟩
  refine ⟨⟨o3_ok _⟩, ?_⟩
  refine ⟨⟨o2_ok _⟩, ?_⟩
  subst hv; exact And.intro (by kernel_rfl) (by kernel_rfl)
  all_goals ((try clear hv); (try clear q1 q2); (try clear hk); (first | omega | ((try simp only [decide_eq_true_eq, decide_eq_false_iff_not, Bool.not_eq_true, Bool.not_eq_false, Bool.and_eq_true, Bool.or_eq_true, Bool.not_not, cond_and, cond_or, List.length_append, List.length_cons, List.length_nil] at *); (first | done | ((first | omega | (intros; (try simp only [Bool.not_not, cond_and, cond_or, Bool.and_eq_true, decide_eq_true_eq] at *); (simp only [aClone, List.length_cons, List.length_nil] at *; omega)) | (intros; (try simp only [Bool.not_not, cond_and, cond_or, Bool.and_eq_true, decide_eq_true_eq] at *); (decide +kernel)) | (intros; (try simp only [Bool.not_not, cond_and, cond_or, Bool.and_eq_true, decide_eq_true_eq] at *); (simp only [aClone] at *; omega)) | (intros; (try simp only [Bool.not_not, cond_and, cond_or, Bool.and_eq_true, decide_eq_true_eq] at *); (exact band_nn rfl _ _)) | (intros; (try simp only [Bool.not_not, cond_and, cond_or, Bool.and_eq_true, decide_eq_true_eq] at *); (exact (wu64s _).2.1)) | (intros; (try simp only [Bool.not_not, cond_and, cond_or, Bool.and_eq_true, decide_eq_true_eq] at *); (simp only [Bool.or_eq_false_iff, Bool.and_eq_false_iff, decide_eq_false_iff_not, decide_eq_true_eq, bne_iff_ne, beq_iff_eq, bne_eq_false_iff_eq, beq_eq_false_iff_ne, ne_eq, true_and] at *; omega)) | (intros; (try simp only [Bool.not_not, cond_and, cond_or, Bool.and_eq_true, decide_eq_true_eq] at *); (simp only [List.length_drop, List.length_take, List.length_append, List.length_cons, List.length_nil] at *; omega)) | (intros; omega) | (intros; simp only [Bool.not_not, cond_and, cond_or, Bool.and_eq_true, decide_eq_true_eq] at *; omega) | (intros; simp_all [Bool.not_not]; done)))))))
def lives20.ct : Ct El := ctOf lives20.dec (fun _ => []) (fun x => lives20.res (lives20)) (fun x => lives20.news (lives20))
theorem lives20.ok : CtOk (mkCx Tryd.prog S [] 0) 15 lives20.ct := ct_mk (C := (mkCxI Tryd.prog S tab_r20Allows 0 true sum_dDel)) (mkCxI_ok sigOk mixed tab_r20Allows_ok 0 true sum_dDel_ok) lives20.dec_ok (fun x => rfl) 4 (fun x _ => (lives20.nf_ok  _).mpr (lives20.key  _ rfl))
def tab_lives20 : List (FuncId × Ct El) := (15, lives20.ct) :: tab_r20Allows
theorem tab_lives20_ok : TabOk Tryd.prog S tab_lives20 := ⟨lives20.ok, by kernel_rfl, tab_r20Allows_ok⟩

end Go.Aw.W
