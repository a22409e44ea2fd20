/- Contracts of the seat (printed by ct.py). -/
import Derived.Test.YtlnbhdcaebmffaaW7
set_option linter.unusedVariables false
set_option linter.unusedSimpArgs false
set_option maxRecDepth 20000
set_option maxHeartbeats 1000000
namespace Go.Aw.W
open Go Go.Aw Go.Proofs
attribute [local irreducible] evCode evFun evOps evDs evOne ctxK loopK loopB subC bodyC headS okH roundK

theorem sumDropI (l : List Int) (i : Int) (h0 : 0 ≤ i) (h : i < l.length) : (l.drop i.toNat).sum = l.getD i.toNat 0 + (l.drop (i + 1).toNat).sum := by
  have h1 : i.toNat < l.length := by omega
  have h2 : (i + 1).toNat = i.toNat + 1 := by omega
  rw [List.drop_eq_getElem_cons h1, h2, List.sum_cons]
  simp only [List.getD, List.getElem?_eq_getElem h1, Option.getD_some]
theorem sumTakeI (l : List Int) (i : Int) (h0 : 0 ≤ i) (h : i < l.length) : (l.take (i + 1).toNat).sum = (l.take i.toNat).sum + l.getD i.toNat 0 := by
  have h1 : i.toNat < l.length := by omega
  have h2 : (i + 1).toNat = i.toNat + 1 := by omega
  rw [h2, List.take_add_one, List.sum_append]
  simp [List.getD, h1]
theorem sumNN : ∀ (l : List Int) (h : ∀ k, k < l.length → 1 ≤ l.getD k 0 ∧ l.getD k 0 ≤ 8) (i : Nat), 0 ≤ (l.drop i).sum := by
  intro l h i
  have : ∀ m : List Int, (∀ x ∈ m, 0 ≤ x) → 0 ≤ m.sum := by
    intro m
    induction m with
    | nil => simp
    | cons a m ih => intro hm; rw [List.sum_cons]; have h1 := hm a (by simp); have h2 := ih (fun x hx => hm x (by simp [hx])); omega
  refine this _ fun x hx => ?_
  obtain ⟨k, hk, rfl⟩ := List.getElem_of_mem (List.mem_of_mem_drop hx)
  have := (h k hk).1
  simp only [List.getD, List.getElem?_eq_getElem hk, Option.getD_some] at this
  omega

/-! wireless/octets.Take -/
def oTake.res (r : (List Int) × (List Int) × Int) : AV El := .tup [.gs 0, .gs 1, .v (.int .i64 (r.2.2))]
def oTake.news (r : (List Int) × (List Int) × Int) : List (AObj El) := [.row 24 (r.1 : List (El 24)), .row 5 (r.2.1 : List (El 5))]
def oTake.L (e v : (List Int) × (List Int) × Int) : Prop := oTake.res e = oTake.res v ∧ oTake.news e = oTake.news v
def oTake.igo (b : List Int) (sizes : List Int) (j : Int) (c : List Int) (out : List Int) : Nat → Int → Int → Int × Int
  | 0, _, _ => (0, 0)
  | n0 + 1, k, x => cond (decide (k < List.getD sizes (Int.toNat j) (0 : Int))) (oTake.igo b sizes j c out n0 (IntKind.wrap IntKind.i64 (k + (1 : Int))) (borK IntKind.u64 x
  (shlK IntKind.u64 (IntKind.wrap IntKind.u64 (List.getD c (Int.toNat k) (0 : Int)))
    (IntKind.wrap IntKind.i64 ((8 : Int) * k))))) ((k, x))
def oTake.ihd (b : List Int) (sizes : List Int) (j : Int) (c : List Int) (out : List Int) (k : Int) (x : Int) : St El := { lo := 0, slots := [(39, .v (.int .i64 (k))), (38, .v (.int .i64 (List.getD sizes (Int.toNat j) (0 : Int)))), (13, .v (.int .u64 (x))), (12, .v (.int .i64 (List.getD sizes (Int.toNat j) (0 : Int)))), (34, .v (.int .i64 (j))), (33, .v (.int .i64 ((↑(List.length sizes) : Int)))), (32, .sl 3 (sizes : List (El 3)) false), (10, .gs 0), (0, .sl 5 (c : List (El 5)) false)], n := 65, objs := [.row 24 (out : List (El 24))] }
def oTake.ix (b : List Int) (sizes : List Int) (j : Int) (c : List Int) (out : List Int) (k : Int) (x : Int) : St El := { lo := 0, slots := [(40, .v (.bool (false))), (40, .v (.bool (decide (k < List.getD sizes (Int.toNat j) (0 : Int))))), (39, .v (.int .i64 (k))), (38, .v (.int .i64 (List.getD sizes (Int.toNat j) (0 : Int)))), (13, .v (.int .u64 (x))), (12, .v (.int .i64 (List.getD sizes (Int.toNat j) (0 : Int)))), (34, .v (.int .i64 (j))), (33, .v (.int .i64 ((↑(List.length sizes) : Int)))), (32, .sl 3 (sizes : List (El 3)) false), (10, .gs 0), (0, .sl 5 (c : List (El 5)) false)], n := 65, objs := [.row 24 (out : List (El 24))] }
def oTake.ist (b : List Int) (sizes : List Int) (j : Int) (c : List Int) (out : List Int) (k : Int) (x : Int) (J : St El → Prop) (K : AExit → St El → Prop) : Prop := cond (decide (k < List.getD sizes (Int.toNat j) (0 : Int))) (Ob ((0 : Int) ≤ k ∧ k < (↑(List.length c) : Int)) ∧ (Ob ((0 : Int) ≤ IntKind.wrap IntKind.i64 ((8 : Int) * k)) ∧ (J (oTake.ihd b sizes j c out (IntKind.wrap IntKind.i64 (k + (1 : Int))) (borK IntKind.u64 x (shlK IntKind.u64 (IntKind.wrap IntKind.u64 (List.getD c (Int.toNat k) (0 : Int))) (IntKind.wrap IntKind.i64 ((8 : Int) * k)))))))) (K (.exit 4) (oTake.ix b sizes j c out (k) (x)))
theorem oTake.ist_ok (b : List Int) (sizes : List Int) (j : Int) (c : List Int) (out : List Int) (k : Int) (x : Int) (J : St El → Prop) (K : AExit → St El → Prop) : evCode (mkCx Try.prog S tab_r12Count 0) (evFun (mkCx Try.prog S tab_r12Count 0) 3) (fstC (subC [true, true, false, false, true, true, false, true, false] (loopB Try.prog 43 [true, true, true, true, true, false, true, false]))) (oTake.ihd b sizes j c out k x) (roundK (C := (mkCx Try.prog S tab_r12Count 0)) [39, 38, 13, 12, 34, 33, 32, 10, 0] [] J K) = oTake.ist b sizes j c out k x J K := by kernel_rfl
def oTake.irng (b : List Int) (sizes : List Int) (j : Int) (c : List Int) (out : List Int) (n0 : Nat) (k : Int) (x : Int) : Prop := 0 ≤ k ∧ k ≤ (sizes.getD j.toNat (0 : Int)) ∧ (sizes.getD j.toNat (0 : Int)) ≤ 8 ∧ (sizes.getD j.toNat (0 : Int)) ≤ c.length ∧ ((sizes.getD j.toNat (0 : Int)) - k).toNat < n0
theorem oTake.ilp (b : List Int) (sizes : List Int) (j : Int) (c : List Int) (out : List Int) (n0 : Nat) (k : Int) (x : Int) (h0 : oTake.irng b sizes j c out n0 k x) (st : St El) (q1 : okH [39, 38, 13, 12, 34, 33, 32, 10, 0] [] st = true) (q2 : headS [39, 38, 13, 12, 34, 33, 32, 10, 0] [] st = oTake.ihd b sizes j c out k x) (K : AExit → St El → Prop) (w : Int × Int) (hw : w = oTake.igo b sizes j c out n0 k x) (hk : ∀ m0, oTake.irng b sizes j c out m0 (w.1) (w.2) → K (.exit 4) (oTake.ix b sizes j c out (w.1) (w.2))) : evCode (mkCx Try.prog S tab_r12Count 0) (evFun (mkCx Try.prog S tab_r12Count 0) 3) (.loop (fstC (subC [true, true, false, false, true, true, false, true, false] (loopB Try.prog 43 [true, true, true, true, true, false, true, false])))) st K := by
  refine loop_ev (by kernel_rfl) (evFun_mono _ _) [39, 38, 13, 12, 34, 33, 32, 10, 0] [] (X := Nat × Int × Int) (fun x => oTake.ihd b sizes j c out x.2.1 x.2.2) (fun x => x.1) (fun x => oTake.irng b sizes j c out x.1 x.2.1 x.2.2 ∧ w = oTake.igo b sizes j c out x.1 x.2.1 x.2.2) (n0, k, x) ⟨q1, q2⟩ ⟨h0, hw⟩ ?_
  clear h0 hw q1 q2
  rintro ⟨n0, k, x⟩ ⟨hr, hv⟩
  dsimp only at hr hv
  cases n0 with
  | zero => exact absurd hr (by unfold oTake.irng; omega)
  | succ n0 =>
  unfold oTake.irng at hr
  unfold oTake.igo at hv
  refine (oTake.ist_ok b sizes j c out k x _ _).mpr ?_
  unfold oTake.ist
  revert hv; refine by_cond2 (fun hb hv => ?_) (fun hb hv => ?_)
  · refine ⟨⟨by (try clear hv); (try clear q1 q2); (try clear hk); (first | omega | ((try simp only [decide_eq_true_eq, decide_eq_false_iff_not, Bool.not_eq_true, Bool.not_eq_false, Bool.and_eq_true, Bool.or_eq_true, Bool.not_not, cond_and, cond_or, List.length_append, List.length_cons, List.length_nil] at *); (first | done | ((first | omega | (intros; (try simp only [Bool.not_not, cond_and, cond_or, Bool.and_eq_true, decide_eq_true_eq] at *); (exact band_nn rfl _ _)) | (intros; (try simp only [Bool.not_not, cond_and, cond_or, Bool.and_eq_true, decide_eq_true_eq] at *); (exact (wu64s _).2.1)) | (intros; (try simp only [Bool.not_not, cond_and, cond_or, Bool.and_eq_true, decide_eq_true_eq] at *); (simp only [Bool.or_eq_false_iff, Bool.and_eq_false_iff, decide_eq_false_iff_not, decide_eq_true_eq, bne_iff_ne, beq_iff_eq, bne_eq_false_iff_eq, beq_eq_false_iff_ne, ne_eq, true_and] at *; omega)) | (intros; (try simp only [Bool.not_not, cond_and, cond_or, Bool.and_eq_true, decide_eq_true_eq] at *); (simp only [List.length_drop, List.length_take, List.length_append, List.length_cons, List.length_nil] at *; omega)) | (intros; (try simp only [Bool.not_not, cond_and, cond_or, Bool.and_eq_true, decide_eq_true_eq] at *); exact r1Power_ne (by omega) (by omega)) | (intros; (try simp only [Bool.not_not, cond_and, cond_or, Bool.and_eq_true, decide_eq_true_eq] at *); exact r1Power_ne (by omega) (by omega)) | (intros; omega) | (intros; simp only [sized_iff, Bool.not_not, cond_and, cond_or, Bool.and_eq_true, decide_eq_true_eq] at *; omega) | (intros; simp_all [sized_iff, Bool.not_not]; done))))))⟩, ?_⟩
    refine ⟨⟨by (try clear hv); (try clear q1 q2); (try clear hk); (first | omega | ((try simp only [decide_eq_true_eq, decide_eq_false_iff_not, Bool.not_eq_true, Bool.not_eq_false, Bool.and_eq_true, Bool.or_eq_true, Bool.not_not, cond_and, cond_or, List.length_append, List.length_cons, List.length_nil] at *); (first | done | (have := wi64s ((8 : Int) * k); (first | omega | (intros; (try simp only [Bool.not_not, cond_and, cond_or, Bool.and_eq_true, decide_eq_true_eq] at *); (exact band_nn rfl _ _)) | (intros; (try simp only [Bool.not_not, cond_and, cond_or, Bool.and_eq_true, decide_eq_true_eq] at *); (exact (wu64s _).2.1)) | (intros; (try simp only [Bool.not_not, cond_and, cond_or, Bool.and_eq_true, decide_eq_true_eq] at *); (simp only [Bool.or_eq_false_iff, Bool.and_eq_false_iff, decide_eq_false_iff_not, decide_eq_true_eq, bne_iff_ne, beq_iff_eq, bne_eq_false_iff_eq, beq_eq_false_iff_ne, ne_eq, true_and] at *; omega)) | (intros; (try simp only [Bool.not_not, cond_and, cond_or, Bool.and_eq_true, decide_eq_true_eq] at *); (simp only [List.length_drop, List.length_take, List.length_append, List.length_cons, List.length_nil] at *; omega)) | (intros; (try simp only [Bool.not_not, cond_and, cond_or, Bool.and_eq_true, decide_eq_true_eq] at *); exact r1Power_ne (by omega) (by omega)) | (intros; (try simp only [Bool.not_not, cond_and, cond_or, Bool.and_eq_true, decide_eq_true_eq] at *); exact r1Power_ne (by omega) (by omega)) | (intros; omega) | (intros; simp only [sized_iff, Bool.not_not, cond_and, cond_or, Bool.and_eq_true, decide_eq_true_eq] at *; omega) | (intros; simp_all [sized_iff, Bool.not_not]; done))))))⟩, ?_⟩
    exact ⟨(n0, (IntKind.wrap IntKind.i64 (k + (1 : Int))), (borK IntKind.u64 x
  (shlK IntKind.u64 (IntKind.wrap IntKind.u64 (List.getD c (Int.toNat k) (0 : Int)))
    (IntKind.wrap IntKind.i64 ((8 : Int) * k))))), (by kernel_rfl), Nat.lt_succ_self n0, (by dsimp only; unfold oTake.irng; (try clear hv); (try clear q1 q2); (try clear hk); (try simp only [decide_eq_true_eq, decide_eq_false_iff_not, Bool.not_eq_true, Bool.not_eq_false, Bool.and_eq_true, Bool.or_eq_true, Bool.not_not, cond_and, cond_or, List.length_append, List.length_cons, List.length_nil] at *); have := wi64s (k + (1 : Int)); have := wu64s (List.getD c (Int.toNat k) (0 : Int)); have := wi64s ((8 : Int) * k); omega), hv⟩
  · subst hv; exact hk (n0 + 1) (by unfold oTake.irng; exact hr)
def oTake.go2 (b : List Int) (sizes : List Int) : Nat → Int → (List Int) → (List Int) → (List Int) × (List Int) × Int
  | 0, _, _, _ => ([], [], 0)
  | n0 + 1, j, c, out => cond (decide (j < (↑(List.length sizes) : Int))) (oTake.go2 b sizes n0 (IntKind.wrap IntKind.i64 (j + (1 : Int))) (List.drop (Int.toNat (List.getD sizes (Int.toNat j) (0 : Int))) (List.take (Int.toNat (↑(List.length c) : Int)) c)) (out ++ [((oTake.igo b sizes j c out ((sizes.getD j.toNat (0 : Int)).toNat + 1) ((0 : Int)) ((0 : Int))).2)])) ((out, oJoin [c], (0 : Int)))
def oTake.l2hd (b : List Int) (sizes : List Int) (j : Int) (c : List Int) (out : List Int) : St El := { lo := 0, slots := [(34, .v (.int .i64 (j))), (33, .v (.int .i64 ((↑(List.length sizes) : Int)))), (32, .sl 3 (sizes : List (El 3)) false), (10, .gs 0), (0, .sl 5 (c : List (El 5)) false)], n := 65, objs := [.row 24 (out : List (El 24))] }
def oTake.l2st (b : List Int) (sizes : List Int) (j : Int) (c : List Int) (out : List Int) (J : St El → Prop) (v : (List Int) × (List Int) × Int) : Prop := cond (decide (j < (↑(List.length sizes) : Int))) (Ob ((0 : Int) ≤ j ∧ j < (↑(List.length sizes) : Int)) ∧ (evCode (mkCx Try.prog S tab_r12Count 0) (evFun (mkCx Try.prog S tab_r12Count 0) 3) (.loop (fstC (subC [true, true, false, false, true, true, false, true, false] (loopB Try.prog 43 [true, true, true, true, true, false, true, false])))) ({ lo := 0, slots := [(39, .v (.int .i64 ((0 : Int)))), (38, .v (.int .i64 (List.getD sizes (Int.toNat j) (0 : Int)))), (13, .v (.int .u64 ((0 : Int)))), (12, .v (.int .i64 (List.getD sizes (Int.toNat j) (0 : Int)))), (37, .v (.int .i64 (List.getD sizes (Int.toNat j) (0 : Int)))), (36, .rp 3 (List.getD sizes (Int.toNat j) (0 : Int)) 0), (35, .v (.bool (true))), (35, .v (.bool (decide (j < (↑(List.length sizes) : Int))))), (34, .v (.int .i64 (j))), (33, .v (.int .i64 ((↑(List.length sizes) : Int)))), (32, .sl 3 (sizes : List (El 3)) false), (10, .gs 0), (0, .sl 5 (c : List (El 5)) false)], n := 65, objs := [.row 24 (out : List (El 24))] }) (ctxK (mkCx Try.prog S tab_r12Count 0) (evFun (mkCx Try.prog S tab_r12Count 0) 3) [true, true, false, false, true, true, false, true, false] (loopB Try.prog 43 [true, true, true, true, true, false, true, false]) (roundK (C := (mkCx Try.prog S tab_r12Count 0)) [34, 33, 32, 10, 0] [.slot 10 24] J (loopK (mkCx Try.prog S tab_r12Count 0) 3 43 [true, true, true, true, true, false, true, false] (fun r' H' => Gives r' H' (oTake.res v) (oTake.news v))))))) (Ob (List.sum (List.map List.length [c]) ≤ (140737488355328 : Nat)) ∧ (oTake.L ((out, oJoin [c], (0 : Int))) v))
theorem oTake.l2st_ok (b : List Int) (sizes : List Int) (j : Int) (c : List Int) (out : List Int) (J : St El → Prop) (v : (List Int) × (List Int) × Int) : evCode (mkCx Try.prog S tab_r12Count 0) (evFun (mkCx Try.prog S tab_r12Count 0) 3) (loopB Try.prog 43 [true, true, true, true, true, false, true, false]) (oTake.l2hd b sizes j c out) (roundK (C := (mkCx Try.prog S tab_r12Count 0)) [34, 33, 32, 10, 0] [.slot 10 24] J (loopK (mkCx Try.prog S tab_r12Count 0) 3 43 [true, true, true, true, true, false, true, false] (fun r' H' => Gives r' H' (oTake.res v) (oTake.news v)))) = oTake.l2st b sizes j c out J v := by kernel_rfl
def oTake.st2 (b : List Int) (sizes : List Int) (j : Int) (c : List Int) (out : List Int) (k : Int) (x : Int) (J : St El → Prop) (v : (List Int) × (List Int) × Int) : Prop := Ob ((List.length out + List.length [x]) * (8 : Nat) ≤ (140737488355328 : Nat)) ∧ (Ob ((0 : Int) ≤ List.getD sizes (Int.toNat j) (0 : Int) ∧
  List.getD sizes (Int.toNat j) (0 : Int) ≤ (↑(List.length c) : Int) ∧
    (↑(List.length c) : Int) ≤ (↑(List.length c) : Int)) ∧ (J (oTake.l2hd b sizes (IntKind.wrap IntKind.i64 (j + (1 : Int))) (List.drop (Int.toNat (List.getD sizes (Int.toNat j) (0 : Int))) (List.take (Int.toNat (↑(List.length c) : Int)) c)) (out ++ [x]))))
theorem oTake.st2_ok (b : List Int) (sizes : List Int) (j : Int) (c : List Int) (out : List Int) (k : Int) (x : Int) (J : St El → Prop) (v : (List Int) × (List Int) × Int) : (ctxK (mkCx Try.prog S tab_r12Count 0) (evFun (mkCx Try.prog S tab_r12Count 0) 3) [true, true, false, false, true, true, false, true, false] (loopB Try.prog 43 [true, true, true, true, true, false, true, false]) (roundK (C := (mkCx Try.prog S tab_r12Count 0)) [34, 33, 32, 10, 0] [.slot 10 24] J (loopK (mkCx Try.prog S tab_r12Count 0) 3 43 [true, true, true, true, true, false, true, false] (fun r' H' => Gives r' H' (oTake.res v) (oTake.news v))))) (.exit 4) (oTake.ix b sizes j c out k x) = oTake.st2 b sizes j c out k x J v := by kernel_rfl
def oTake.l2rng (b : List Int) (sizes : List Int) (n0 : Nat) (j : Int) (c : List Int) (out : List Int) : Prop := 0 ≤ j ∧ j ≤ sizes.length ∧ (sizes.length - j).toNat < n0 ∧ sizes.length ≤ 1099511627776 ∧ out.length ≤ j ∧ (∀ k, k < sizes.length → 1 ≤ sizes.getD k 0 ∧ sizes.getD k 0 ≤ 8) ∧ (sizes.drop j.toNat).sum ≤ c.length ∧ c.length ≤ 140737488355328
theorem oTake.l2lp (b : List Int) (sizes : List Int) (hp : b.length ≤ 140737488355328 ∧ sizes.length ≤ 1099511627776) (v : (List Int) × (List Int) × Int) (n0 : Nat) (j : Int) (c : List Int) (out : List Int) (hv : v = oTake.go2 b sizes n0 j c out) (h0 : oTake.l2rng b sizes n0 j c out) (st : St El) (q1 : okH [34, 33, 32, 10, 0] [.slot 10 24] st = true) (q2 : headS [34, 33, 32, 10, 0] [.slot 10 24] st = oTake.l2hd b sizes j c out) : evCode (mkCx Try.prog S tab_r12Count 0) (evFun (mkCx Try.prog S tab_r12Count 0) 3) (.loop (loopB Try.prog 43 [true, true, true, true, true, false, true, false])) st (loopK (mkCx Try.prog S tab_r12Count 0) 3 43 [true, true, true, true, true, false, true, false] (fun r' H' => Gives r' H' (oTake.res v) (oTake.news v))) := by
  refine loop_ev (by kernel_rfl) (evFun_mono _ _) [34, 33, 32, 10, 0] [.slot 10 24] (X := Nat × Int × (List Int) × (List Int)) (fun x => oTake.l2hd b sizes x.2.1 x.2.2.1 x.2.2.2) (fun x => x.1) (fun x => oTake.l2rng b sizes x.1 x.2.1 x.2.2.1 x.2.2.2 ∧ v = oTake.go2 b sizes x.1 x.2.1 x.2.2.1 x.2.2.2) (n0, j, c, out) ⟨q1, q2⟩ ⟨h0, hv⟩ ?_
  clear h0 hv q1 q2
  rintro ⟨n0, j, c, out⟩ ⟨hr, hv⟩
  dsimp only at hr hv
  cases n0 with
  | zero => exact absurd hr (by unfold oTake.l2rng; omega)
  | succ n0 =>
  unfold oTake.l2rng at hr
  unfold oTake.go2 at hv
  refine (oTake.l2st_ok b sizes j c out _ _).mpr ?_
  unfold oTake.l2st
  revert hv; refine by_cond2 (fun hb hv => ?_) (fun hb hv => ?_)
  refine ⟨⟨?_⟩, ?_⟩; rotate_left
  refine oTake.ilp b sizes j c out ((sizes.getD j.toNat (0 : Int)).toNat + 1) ((0 : Int)) ((0 : Int)) (by unfold oTake.irng; (try clear hv); (try clear q1 q2); (try clear hk); (simp only [decide_eq_true_eq, decide_eq_false_iff_not, List.length_append, List.length_cons, List.length_nil, List.length_drop, List.length_take, List.map_cons, List.map_nil, List.sum_cons, List.sum_nil] at *; obtain ⟨r1, r2, r3, r4, r5, ha, hs, r8⟩ := hr; have h1 := ha j.toNat (by omega); have h2 := sumDropI sizes j (by omega) (by omega); have h3 := sumNN sizes ha (j + 1).toNat; omega)) _ (by kernel_rfl) (by kernel_rfl) _ _ rfl (fun m0 hx => ?_)
  unfold oTake.irng at hx
  refine (oTake.st2_ok b sizes j c out ((oTake.igo b sizes j c out ((sizes.getD j.toNat (0 : Int)).toNat + 1) ((0 : Int)) ((0 : Int))).1) ((oTake.igo b sizes j c out ((sizes.getD j.toNat (0 : Int)).toNat + 1) ((0 : Int)) ((0 : Int))).2) _ _).mpr ?_
  unfold oTake.st2
  refine ⟨⟨?_⟩, ?_⟩; rotate_left
  refine ⟨⟨?_⟩, ?_⟩; rotate_left
  exact ⟨(n0, (IntKind.wrap IntKind.i64 (j + (1 : Int))), (List.drop (Int.toNat (List.getD sizes (Int.toNat j) (0 : Int))) (List.take (Int.toNat (↑(List.length c) : Int)) c)), (out ++ [((oTake.igo b sizes j c out ((sizes.getD j.toNat (0 : Int)).toNat + 1) ((0 : Int)) ((0 : Int))).2)])), (by kernel_rfl), Nat.lt_succ_self n0, (by dsimp only; unfold oTake.l2rng; (try clear hv); (try clear q1 q2); (try clear hk); (simp only [decide_eq_true_eq, decide_eq_false_iff_not, List.length_append, List.length_cons, List.length_nil, List.length_drop, List.length_take, List.map_cons, List.map_nil, List.sum_cons, List.sum_nil] at *; obtain ⟨r1, r2, r3, r4, r5, ha, hs, r8⟩ := hr; have h1 := ha j.toNat (by omega); have h2 := sumDropI sizes j (by omega) (by omega); have h3 := sumNN sizes ha (j + 1).toNat; have h4 := wi64 (j + (1 : Int)) (by omega) (by omega); rw [h4]; exact ⟨by omega, by omega, by omega, by omega, by omega, ha, by omega, by omega⟩)), hv⟩
  refine ⟨⟨?_⟩, ?_⟩; rotate_left
  subst hv; exact ⟨rfl, rfl⟩
  all_goals ((try clear hv); (try clear q1 q2); (try clear hk); (simp only [decide_eq_true_eq, decide_eq_false_iff_not, List.length_append, List.length_cons, List.length_nil, List.length_drop, List.length_take, List.map_cons, List.map_nil, List.sum_cons, List.sum_nil] at *; first | omega | (obtain ⟨r1, r2, r3, r4, r5, ha, hs, r8⟩ := hr; have h1 := ha j.toNat (by omega); have h2 := sumDropI sizes j (by omega) (by omega); have h3 := sumNN sizes ha (j + 1).toNat; omega)))
def oTake.go1 (b : List Int) (sizes : List Int) : Nat → Int → Int → (List Int) × (List Int) × Int
  | 0, _, _ => ([], [], 0)
  | n0 + 1, i, need => cond (decide (i < (↑(List.length sizes) : Int))) (cond (!sized (List.getD sizes (Int.toNat i) (0 : Int))) (([], [], (5 : Int))) (oTake.go1 b sizes n0 (IntKind.wrap IntKind.i64 (i + (1 : Int))) (IntKind.wrap IntKind.i64 (need + List.getD sizes (Int.toNat i) (0 : Int))))) (cond (decide ((↑(List.length b) : Int) < need)) (([], [], (3 : Int))) (oTake.go2 b sizes (sizes.length + 1) ((0 : Int)) (b) ([])))
def oTake.l1hd (b : List Int) (sizes : List Int) (i : Int) (need : Int) : St El := { lo := 0, slots := [(17, .v (.int .i64 (i))), (16, .v (.int .i64 ((↑(List.length sizes) : Int)))), (15, .sl 3 (sizes : List (El 3)) false), (7, .v (.int .i64 (need))), (0, .sl 5 (b : List (El 5)) false), (1, .sl 3 (sizes : List (El 3)) false)], n := 65, objs := [] }
def oTake.l1st (b : List Int) (sizes : List Int) (i : Int) (need : Int) (J : St El → Prop) (v : (List Int) × (List Int) × Int) : Prop := cond (decide (i < (↑(List.length sizes) : Int))) (Ob ((0 : Int) ≤ i ∧ i < (↑(List.length sizes) : Int)) ∧ (cond (!sized (List.getD sizes (Int.toNat i) (0 : Int))) (oTake.L (([], [], (5 : Int))) v) (J (oTake.l1hd b sizes (IntKind.wrap IntKind.i64 (i + (1 : Int))) (IntKind.wrap IntKind.i64 (need + List.getD sizes (Int.toNat i) (0 : Int))))))) ((List.length b ≤ (9223372036854775807 : Nat)) → (cond (decide ((↑(List.length b) : Int) < need)) (oTake.L (([], [], (3 : Int))) v) ((List.length sizes ≤ (9223372036854775807 : Nat)) → (evCode (mkCx Try.prog S tab_r12Count 0) (evFun (mkCx Try.prog S tab_r12Count 0) 3) (.loop (loopB Try.prog 43 [true, true, true, true, true, false, true, false])) ({ lo := 0, slots := [(34, .v (.int .i64 ((0 : Int)))), (33, .v (.int .i64 ((↑(List.length sizes) : Int)))), (32, .sl 3 (sizes : List (El 3)) false), (10, .v (.slice none 0 0)), (31, .v (.bool (false))), (31, .v (.bool (decide ((↑(List.length b) : Int) < need)))), (30, .v (.int .i64 (need))), (29, .v (.int .i64 ((↑(List.length b) : Int)))), (28, .sl 5 (b : List (El 5)) false), (18, .v (.bool (false))), (18, .v (.bool (decide (i < (↑(List.length sizes) : Int))))), (17, .v (.int .i64 (i))), (16, .v (.int .i64 ((↑(List.length sizes) : Int)))), (15, .sl 3 (sizes : List (El 3)) false), (7, .v (.int .i64 (need))), (0, .sl 5 (b : List (El 5)) false), (1, .sl 3 (sizes : List (El 3)) false)], n := 65, objs := [] }) (loopK (mkCx Try.prog S tab_r12Count 0) 3 43 [true, true, true, true, true, false, true, false] (fun r' H' => Gives r' H' (oTake.res v) (oTake.news v)))))))
theorem oTake.l1st_ok (b : List Int) (sizes : List Int) (i : Int) (need : Int) (J : St El → Prop) (v : (List Int) × (List Int) × Int) : evCode (mkCx Try.prog S tab_r12Count 0) (evFun (mkCx Try.prog S tab_r12Count 0) 3) (loopB Try.prog 43 [true, true, false, true, false]) (oTake.l1hd b sizes i need) (roundK (C := (mkCx Try.prog S tab_r12Count 0)) [17, 16, 15, 7, 0, 1] [] J (loopK (mkCx Try.prog S tab_r12Count 0) 3 43 [true, true, false, true, false] (fun r' H' => Gives r' H' (oTake.res v) (oTake.news v)))) = oTake.l1st b sizes i need J v := by kernel_rfl
def oTake.l1rng (b : List Int) (sizes : List Int) (n0 : Nat) (i : Int) (need : Int) : Prop := 0 ≤ i ∧ i ≤ sizes.length ∧ (sizes.length - i).toNat < n0 ∧ need = (sizes.take i.toNat).sum ∧ (∀ k, k < i.toNat → 1 ≤ sizes.getD k 0 ∧ sizes.getD k 0 ≤ 8) ∧ need ≤ 8 * i ∧ 0 ≤ need
theorem oTake.l1lp (b : List Int) (sizes : List Int) (hp : b.length ≤ 140737488355328 ∧ sizes.length ≤ 1099511627776) (v : (List Int) × (List Int) × Int) (n0 : Nat) (i : Int) (need : Int) (hv : v = oTake.go1 b sizes n0 i need) (h0 : oTake.l1rng b sizes n0 i need) (st : St El) (q1 : okH [17, 16, 15, 7, 0, 1] [] st = true) (q2 : headS [17, 16, 15, 7, 0, 1] [] st = oTake.l1hd b sizes i need) : evCode (mkCx Try.prog S tab_r12Count 0) (evFun (mkCx Try.prog S tab_r12Count 0) 3) (.loop (loopB Try.prog 43 [true, true, false, true, false])) st (loopK (mkCx Try.prog S tab_r12Count 0) 3 43 [true, true, false, true, false] (fun r' H' => Gives r' H' (oTake.res v) (oTake.news v))) := by
  refine loop_ev (by kernel_rfl) (evFun_mono _ _) [17, 16, 15, 7, 0, 1] [] (X := Nat × Int × Int) (fun x => oTake.l1hd b sizes x.2.1 x.2.2) (fun x => x.1) (fun x => oTake.l1rng b sizes x.1 x.2.1 x.2.2 ∧ v = oTake.go1 b sizes x.1 x.2.1 x.2.2) (n0, i, need) ⟨q1, q2⟩ ⟨h0, hv⟩ ?_
  clear h0 hv q1 q2
  rintro ⟨n0, i, need⟩ ⟨hr, hv⟩
  dsimp only at hr hv
  cases n0 with
  | zero => exact absurd hr (by unfold oTake.l1rng; omega)
  | succ n0 =>
  unfold oTake.l1rng at hr
  unfold oTake.go1 at hv
  refine (oTake.l1st_ok b sizes i need _ _).mpr ?_
  unfold oTake.l1st
  revert hv; refine by_cond2 (fun hb hv => ?_) (fun hb hv => ?_)
  · refine ⟨⟨by (try clear hv); (try clear q1 q2); (try clear hk); (first | omega | ((try simp only [decide_eq_true_eq, decide_eq_false_iff_not, Bool.not_eq_true, Bool.not_eq_false, Bool.and_eq_true, Bool.or_eq_true, Bool.not_not, cond_and, cond_or, List.length_append, List.length_cons, List.length_nil] at *); (first | done | ((first | omega | (intros; (try simp only [Bool.not_not, cond_and, cond_or, Bool.and_eq_true, decide_eq_true_eq] at *); (exact band_nn rfl _ _)) | (intros; (try simp only [Bool.not_not, cond_and, cond_or, Bool.and_eq_true, decide_eq_true_eq] at *); (exact (wu64s _).2.1)) | (intros; (try simp only [Bool.not_not, cond_and, cond_or, Bool.and_eq_true, decide_eq_true_eq] at *); (simp only [Bool.or_eq_false_iff, Bool.and_eq_false_iff, decide_eq_false_iff_not, decide_eq_true_eq, bne_iff_ne, beq_iff_eq, bne_eq_false_iff_eq, beq_eq_false_iff_ne, ne_eq, true_and] at *; omega)) | (intros; (try simp only [Bool.not_not, cond_and, cond_or, Bool.and_eq_true, decide_eq_true_eq] at *); (simp only [List.length_drop, List.length_take, List.length_append, List.length_cons, List.length_nil] at *; omega)) | (intros; (try simp only [Bool.not_not, cond_and, cond_or, Bool.and_eq_true, decide_eq_true_eq] at *); exact r1Power_ne (by omega) (by omega)) | (intros; (try simp only [Bool.not_not, cond_and, cond_or, Bool.and_eq_true, decide_eq_true_eq] at *); exact r1Power_ne (by omega) (by omega)) | (intros; omega) | (intros; simp only [sized_iff, Bool.not_not, cond_and, cond_or, Bool.and_eq_true, decide_eq_true_eq] at *; omega) | (intros; simp_all [sized_iff, Bool.not_not]; done))))))⟩, ?_⟩
    revert hv; refine by_cond2 (fun hb hv => ?_) (fun hb hv => ?_)
    · subst hv; exact ⟨rfl, rfl⟩
    · exact ⟨(n0, (IntKind.wrap IntKind.i64 (i + (1 : Int))), (IntKind.wrap IntKind.i64 (need + List.getD sizes (Int.toNat i) (0 : Int)))), (by kernel_rfl), Nat.lt_succ_self n0, (by dsimp only; unfold oTake.l1rng; (try clear hv); (try clear q1 q2); (try clear hk); (simp only [decide_eq_true_eq, Bool.not_eq_false, Bool.not_eq_eq_eq_not, Bool.not_false, Bool.not_true, sized_iff] at *; obtain ⟨r1, r2, r3, r4, r5, r6, r7⟩ := hr; have h2 := sumTakeI sizes i (by omega) (by omega); have h4 := wi64 (i + (1 : Int)) (by omega) (by omega); have h5 := wi64 (need + sizes.getD i.toNat (0 : Int)) (by omega) (by omega); rw [h4, h5]; exact ⟨by omega, by omega, by omega, by omega, (fun k hk => by by_cases hc : k < i.toNat; exact r5 k hc; have hk2 : k = i.toNat := (by omega); rw [hk2]; omega), by omega, by omega⟩)), hv⟩
  · intro hlen
    revert hv; refine by_cond2 (fun hb hv => ?_) (fun hb hv => ?_)
    · subst hv; exact ⟨rfl, rfl⟩
    · intro hlen
      exact oTake.l2lp b sizes hp v _ _ _ _ hv (by unfold oTake.l2rng; (try clear hv); (try clear q1 q2); (try clear hk); (simp only [decide_eq_true_eq, decide_eq_false_iff_not] at *; obtain ⟨r1, r2, r3, r4, r5, r6, r7⟩ := hr; have hi : i.toNat = sizes.length := (by omega); rw [hi] at r4 r5; rw [List.take_length] at r4; exact ⟨by omega, by omega, by omega, by omega, by simp, r5, (by simp; omega), by omega⟩)) _ (by kernel_rfl) (by kernel_rfl)
def oTake (b : List Int) (sizes : List Int) : (List Int) × (List Int) × Int := oTake.go1 b sizes (sizes.length + 1) ((0 : Int)) ((0 : Int))
def oTake.dec (cs : List (AV El)) : Option ((List Int) × (List Int)) := popS 5 cs fun a0 c0 => popS 3 c0 fun a1 c1 => popE c1 (a0, a1)
def oTake.enc (x : (List Int) × (List Int)) : List (AV El) := [.sl 5 (x.1 : List (El 5)) false, .sl 3 (x.2 : List (El 3)) false]
theorem oTake.dec_ok : ∀ cs x, oTake.dec cs = some x → Imp (S := S) cs (oTake.enc x) := by
  intro cs x h
  unfold oTake.dec at h
  obtain ⟨a0, c0, h0, k0⟩ := popS_some (S := S) (t := 5) h
  obtain ⟨a1, c1, h1, k1⟩ := popS_some (S := S) (t := 3) h0
  obtain ⟨rfl, rfl⟩ := popE_some (S := S) h1
  exact (k0 _ (k1 _ (.refl _)))
def oTake.nf (b : List Int) (sizes : List Int) (v : (List Int) × (List Int) × Int) : Prop := (List.length sizes ≤ (9223372036854775807 : Nat)) → (evCode (mkCx Try.prog S tab_r12Count 0) (evFun (mkCx Try.prog S tab_r12Count 0) 3) (.loop (loopB Try.prog 43 [true, true, false, true, false])) ({ lo := 0, slots := [(17, .v (.int .i64 ((0 : Int)))), (16, .v (.int .i64 ((↑(List.length sizes) : Int)))), (15, .sl 3 (sizes : List (El 3)) false), (7, .v (.int .i64 ((0 : Int)))), (6, .v (.int .i64 ((0 : Int)))), (5, .v (.slice none 0 0)), (4, .v (.slice none 0 0)), (0, .sl 5 (b : List (El 5)) false), (1, .sl 3 (sizes : List (El 3)) false)], n := 65, objs := [] }) (loopK (mkCx Try.prog S tab_r12Count 0) 3 43 [true, true, false, true, false] (fun r' H' => Gives r' H' (oTake.res v) (oTake.news v))))
theorem oTake.nf_ok (b : List Int) (sizes : List Int) (v : (List Int) × (List Int) × Int) : evFun (mkCx Try.prog S tab_r12Count 0) 4 43 [.sl 5 (b : List (El 5)) false, .sl 3 (sizes : List (El 3)) false] [] (fun r' H' => Gives r' H' (oTake.res v) (oTake.news v)) = oTake.nf b sizes v := by kernel_rfl
theorem oTake.key (b : List Int) (sizes : List Int) (hp : b.length ≤ 140737488355328 ∧ sizes.length ≤ 1099511627776) (v : (List Int) × (List Int) × Int) (hv : v = oTake b sizes) : oTake.nf b sizes v := by
  unfold oTake at hv
  unfold oTake.nf
  intro hlen
  exact oTake.l1lp b sizes hp v _ _ _ hv (by unfold oTake.l1rng; (try clear hv); (try clear q1 q2); (try clear hk); (refine ⟨by omega, by omega, by omega, by simp, fun k hk => by omega, by omega, by omega⟩)) _ (by kernel_rfl) (by kernel_rfl)
def oTake.ct : Ct El := ctOf oTake.dec (fun x => [x.1.length ≤ 140737488355328 ∧ x.2.length ≤ 1099511627776]) (fun x => oTake.res (oTake x.1 x.2)) (fun x => oTake.news (oTake x.1 x.2))
theorem oTake.ok : CtOk (mkCx Try.prog S [] 0) 43 oTake.ct := ct_mk (C := (mkCx Try.prog S tab_r12Count 0)) (mkCx_ok sigOk mixed tab_r12Count_ok 0) oTake.dec_ok (fun x => rfl) 4 (fun x hp => (oTake.nf_ok x.1 x.2 _).mpr (oTake.key x.1 x.2 (hp _ (List.mem_singleton.2 rfl)) _ rfl))
def tab_oTake : List (FuncId × Ct El) := (43, oTake.ct) :: tab_r12Count
theorem tab_oTake_ok : TabOk Try.prog S tab_oTake := ⟨oTake.ok, by kernel_rfl, tab_r12Count_ok⟩

/-! wireless/wirelessref12.Check -/
def r12Check.res (r : Int) : AV El := .v (.int .i64 (r))
def r12Check.news (r : Int) : List (AObj El) := []
def r12Check.L (e v : Int) : Prop := r12Check.res e = r12Check.res v ∧ r12Check.news e = r12Check.news v
def r12Check (m : Int) : Int := cond (decide (r1Power (37 : Int) ≤ m)) ((5 : Int)) (cond (decide (r12Count m < (2 : Int))) ((1 : Int)) ((0 : Int)))
def r12Check.dec (cs : List (AV El)) : Option (Int) := popI .u64 cs fun a0 c0 => popE c0 a0
def r12Check.enc (x : Int) : List (AV El) := [.v (.int .u64 x)]
theorem r12Check.dec_ok : ∀ cs x, r12Check.dec cs = some x → Imp (S := S) cs (r12Check.enc x) := by
  intro cs x h
  unfold r12Check.dec at h
  obtain ⟨a0, c0, rfl, h0⟩ := popI_some (S := S) h
  obtain ⟨rfl, rfl⟩ := popE_some (S := S) h0
  exact (.cons (.refl _))
def r12Check.nf (m : Int) (v : Int) : Prop := Ob ((37 : Int) ≤ (9223372036854775807 : Int)) ∧ (cond (decide (r1Power (37 : Int) ≤ m)) (r12Check.L ((5 : Int)) v) (cond (decide (r12Count m < (2 : Int))) (r12Check.L ((1 : Int)) v) (r12Check.L ((0 : Int)) v)))
theorem r12Check.nf_ok (m : Int) (v : Int) : evFun (mkCx Try.prog S tab_oTake 0) 4 38 [.v (.int .u64 m)] [] (fun r' H' => Gives r' H' (r12Check.res v) (r12Check.news v)) = r12Check.nf m v := by kernel_rfl
theorem r12Check.key (m : Int) (v : Int) (hv : v = r12Check m) : r12Check.nf m v := by
  unfold r12Check at hv
  unfold r12Check.nf
  refine ⟨⟨by (try clear hv); (try clear q1 q2); (try clear hk); (first | omega | ((try simp only [decide_eq_true_eq, decide_eq_false_iff_not, Bool.not_eq_true, Bool.not_eq_false, Bool.and_eq_true, Bool.or_eq_true, Bool.not_not, cond_and, cond_or, List.length_append, List.length_cons, List.length_nil] at *); (first | done | ((first | omega | (intros; (try simp only [Bool.not_not, cond_and, cond_or, Bool.and_eq_true, decide_eq_true_eq] at *); (exact band_nn rfl _ _)) | (intros; (try simp only [Bool.not_not, cond_and, cond_or, Bool.and_eq_true, decide_eq_true_eq] at *); (exact (wu64s _).2.1)) | (intros; (try simp only [Bool.not_not, cond_and, cond_or, Bool.and_eq_true, decide_eq_true_eq] at *); (simp only [Bool.or_eq_false_iff, Bool.and_eq_false_iff, decide_eq_false_iff_not, decide_eq_true_eq, bne_iff_ne, beq_iff_eq, bne_eq_false_iff_eq, beq_eq_false_iff_ne, ne_eq, true_and] at *; omega)) | (intros; (try simp only [Bool.not_not, cond_and, cond_or, Bool.and_eq_true, decide_eq_true_eq] at *); (simp only [List.length_drop, List.length_take, List.length_append, List.length_cons, List.length_nil] at *; omega)) | (intros; (try simp only [Bool.not_not, cond_and, cond_or, Bool.and_eq_true, decide_eq_true_eq] at *); exact r1Power_ne (by omega) (by omega)) | (intros; (try simp only [Bool.not_not, cond_and, cond_or, Bool.and_eq_true, decide_eq_true_eq] at *); exact r1Power_ne (by omega) (by omega)) | (intros; omega) | (intros; simp only [sized_iff, Bool.not_not, cond_and, cond_or, Bool.and_eq_true, decide_eq_true_eq] at *; omega) | (intros; simp_all [sized_iff, Bool.not_not]; done))))))⟩, ?_⟩
  revert hv; refine by_cond2 (fun hb hv => ?_) (fun hb hv => ?_)
  · subst hv; exact ⟨rfl, rfl⟩
  · revert hv; refine by_cond2 (fun hb hv => ?_) (fun hb hv => ?_)
    · subst hv; exact ⟨rfl, rfl⟩
    · subst hv; exact ⟨rfl, rfl⟩
def r12Check.ct : Ct El := ctOf r12Check.dec (fun _ => []) (fun x => r12Check.res (r12Check x)) (fun x => r12Check.news (r12Check x))
theorem r12Check.ok : CtOk (mkCx Try.prog S [] 0) 38 r12Check.ct := ct_mk (C := (mkCx Try.prog S tab_oTake 0)) (mkCx_ok sigOk mixed tab_oTake_ok 0) r12Check.dec_ok (fun x => rfl) 4 (fun x _ => (r12Check.nf_ok x _).mpr (r12Check.key x _ rfl))
def tab_r12Check : List (FuncId × Ct El) := (38, r12Check.ct) :: tab_oTake
theorem tab_r12Check_ok : TabOk Try.prog S tab_r12Check := ⟨r12Check.ok, by kernel_rfl, tab_oTake_ok⟩

end Go.Aw.W
