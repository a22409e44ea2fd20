/- Contracts of the seat (printed by ct.py). -/
import Derived.Test.YtcpcakglnckpeaaDoorXW13
set_option linter.unusedVariables false
set_option linter.unusedSimpArgs false
set_option maxRecDepth 20000
set_option maxHeartbeats 1000000
namespace Go.Aw.W
open Go Go.Aw Go.Proofs
attribute [local irreducible] evCode evFun evOps evDs evOne ctxK loopK loopB subC bodyC headS okH roundK

/-! wireless/wirelesslaw20.without -/
def without.res (r : (List Address)) : AV El := .gs 0
def without.news (r : (List Address)) : List (AObj El) := [.row 25 (r : List (El 25))]
def without.go (l : List Address) (a : Address) : Nat → Int → (List Address) → (List Address)
  | 0, _, _ => []
  | n0 + 1, i, out => cond (decide (i < (↑(List.length l) : Int))) (cond (!((List.getD l (Int.toNat i) Address.zero).Kind == a.Kind && (List.getD l (Int.toNat i) Address.zero).Bits == a.Bits)) (without.go l a n0 (IntKind.wrap IntKind.i64 (i + (1 : Int))) (out ++ [List.getD l (Int.toNat i) Address.zero])) (without.go l a n0 (IntKind.wrap IntKind.i64 (i + (1 : Int))) (out))) (out)
def without.hd (l : List Address) (a : Address) (i : Int) (out : List Address) : St El := { lo := 0, slots := [(6, .v (.int .i64 (i))), (5, .gs 0), (3, .ref 1 0), (0, .sl 25 (l : List (El 25)) false)], n := 28, objs := [.row 25 (out : List (El 25)), .cells [.v (.int .i64 (a.Kind)), .v (.int .u64 (a.Bits))]] }
def without.st (l : List Address) (a : Address) (i : Int) (out : List Address) (J : St El → Prop) (K : AV El → List (AObj El) → Prop) : Prop := (List.length l ≤ (9223372036854775807 : Nat)) → (cond (decide (i < (↑(List.length l) : Int))) (Ob ((0 : Int) ≤ i ∧ i < (↑(List.length l) : Int)) ∧ (cond (!((List.getD l (Int.toNat i) Address.zero).Kind == a.Kind && (List.getD l (Int.toNat i) Address.zero).Bits == a.Bits)) (Ob ((0 : Int) ≤ i ∧ i < (↑(List.length l) : Int)) ∧ (Ob ((List.length out + List.length [List.getD l (Int.toNat i) Address.zero]) * (16 : Nat) ≤ (140737488355328 : Nat)) ∧ (J (without.hd l a (IntKind.wrap IntKind.i64 (i + (1 : Int))) (out ++ [List.getD l (Int.toNat i) Address.zero]))))) (J (without.hd l a (IntKind.wrap IntKind.i64 (i + (1 : Int))) (out))))) (K (.gs 0) [.row 25 (out : List (El 25)), .cells [.v (.int .i64 (a.Kind)), .v (.int .u64 (a.Bits))]]))
theorem without.st_ok (l : List Address) (a : Address) (i : Int) (out : List Address) (J : St El → Prop) (K : AV El → List (AObj El) → Prop) : evCode (mkCxI Tryd.prog S tab_r20Has 0 false sum_fIdx) (evFun (mkCxI Tryd.prog S tab_r20Has 0 false sum_fIdx) 3) (loopB Tryd.prog 27 [true, true, false, true, false]) (without.hd l a i out) (roundK (C := (mkCxI Tryd.prog S tab_r20Has 0 false sum_fIdx)) [6, 5, 3, 0] [] J (loopK (mkCxI Tryd.prog S tab_r20Has 0 false sum_fIdx) 3 27 [true, true, false, true, false] K)) = without.st l a i out J K := by kernel_rfl
def without.rng (l : List Address) (a : Address) (n0 : Nat) (i : Int) (out : List Address) : Prop := 0 ≤ i ∧ i ≤ l.length ∧ (l.length - i).toNat < n0 ∧ out.length ≤ i ∧ l.length ≤ 4611686018427
theorem without.lp (l : List Address) (a : Address) (hp : l.length ≤ 4611686018427) (v : (List Address)) (n0 : Nat) (i : Int) (out : List Address) (hv : v = without.go l a n0 i out) (h0 : without.rng l a n0 i out) (st : St El) (q1 : okH [6, 5, 3, 0] [] st = true) (q2 : headS [6, 5, 3, 0] [] st = without.hd l a i out) : evCode (mkCxI Tryd.prog S tab_r20Has 0 false sum_fIdx) (evFun (mkCxI Tryd.prog S tab_r20Has 0 false sum_fIdx) 3) (.loop (loopB Tryd.prog 27 [true, true, false, true, false])) st (loopK (mkCxI Tryd.prog S tab_r20Has 0 false sum_fIdx) 3 27 [true, true, false, true, false] (fun r' H' => Gives r' H' (without.res v) (without.news v))) := by
  refine loop_ev rfl (evFun_mono _ _) [6, 5, 3, 0] [] (X := Nat × Int × (List Address)) (fun x => without.hd l a x.2.1 x.2.2) (fun x => x.1) (fun x => without.rng l a x.1 x.2.1 x.2.2 ∧ v = without.go l a x.1 x.2.1 x.2.2) (n0, i, out) ⟨q1, q2⟩ ⟨h0, hv⟩ ?_
  clear h0 hv q1 q2
  rintro ⟨n0, i, out⟩ ⟨hr, hv⟩
  dsimp only at hr hv
  cases n0 with
  | zero => exact absurd hr (by unfold without.rng; omega)
  | succ n0 =>
  unfold without.rng at hr
  unfold without.go at hv
  refine (without.st_ok l a i out _ _).mpr ?_
  unfold without.st
  intro hlen
  revert hv; refine by_cond2 (fun hb hv => ?_) (fun hb hv => ?_)
  refine ⟨⟨?_⟩, ?_⟩; rotate_left
  revert hv; refine by_cond2 (fun hb hv => ?_) (fun hb hv => ?_)
  refine ⟨⟨?_⟩, ?_⟩; rotate_left
  refine ⟨⟨?_⟩, ?_⟩; rotate_left
  exact ⟨(n0, (IntKind.wrap IntKind.i64 (i + (1 : Int))), (out ++ [List.getD l (Int.toNat i) Address.zero])), (by kernel_rfl), Nat.lt_succ_self n0, (by dsimp only; unfold without.rng; (try clear hv); (try clear q1 q2); (try clear hk); (try simp only [decide_eq_true_eq, decide_eq_false_iff_not, Bool.not_eq_true, Bool.not_eq_false, Bool.and_eq_true, Bool.or_eq_true, Bool.not_not, cond_and, cond_or, List.length_append, List.length_cons, List.length_nil] at *); have := wi64s (i + (1 : Int)); omega), hv⟩
  exact ⟨(n0, (IntKind.wrap IntKind.i64 (i + (1 : Int))), (out)), (by kernel_rfl), Nat.lt_succ_self n0, (by dsimp only; unfold without.rng; (try clear hv); (try clear q1 q2); (try clear hk); (try simp only [decide_eq_true_eq, decide_eq_false_iff_not, Bool.not_eq_true, Bool.not_eq_false, Bool.and_eq_true, Bool.or_eq_true, Bool.not_not, cond_and, cond_or, List.length_append, List.length_cons, List.length_nil] at *); have := wi64s (i + (1 : Int)); omega), hv⟩
  subst hv; exact And.intro (by kernel_rfl) (by kernel_rfl)
  all_goals ((try clear hv); (try clear q1 q2); (try clear hk); (first | omega | ((try simp only [decide_eq_true_eq, decide_eq_false_iff_not, Bool.not_eq_true, Bool.not_eq_false, Bool.and_eq_true, Bool.or_eq_true, Bool.not_not, cond_and, cond_or, List.length_append, List.length_cons, List.length_nil] at *); (first | done | ((first | omega | (intros; (try simp only [Bool.not_not, cond_and, cond_or, Bool.and_eq_true, decide_eq_true_eq] at *); (have hf := pFind_lt ids a; omega)) | (intros; (try simp only [Bool.not_not, cond_and, cond_or, Bool.and_eq_true, decide_eq_true_eq] at *); (have hf := r9Find_lt ids a; omega)) | (intros; (try simp only [Bool.not_not, cond_and, cond_or, Bool.and_eq_true, decide_eq_true_eq] at *); (simp only [aClone, List.length_cons, List.length_nil] at *; omega)) | (intros; (try simp only [Bool.not_not, cond_and, cond_or, Bool.and_eq_true, decide_eq_true_eq] at *); (exact ⟨by decide, by simp⟩)) | (intros; (try simp only [Bool.not_not, cond_and, cond_or, Bool.and_eq_true, decide_eq_true_eq] at *); (exact pDerive_len _ _ (by omega) (by omega))) | (intros; (try simp only [Bool.not_not, cond_and, cond_or, Bool.and_eq_true, decide_eq_true_eq] at *); (exact pDerive_len2 _ _ (by omega) (by omega))) | (intros; (try simp only [Bool.not_not, cond_and, cond_or, Bool.and_eq_true, decide_eq_true_eq] at *); (exact band_nn rfl _ _)) | (intros; (try simp only [Bool.not_not, cond_and, cond_or, Bool.and_eq_true, decide_eq_true_eq] at *); (exact (wu64s _).2.1)) | (intros; (try simp only [Bool.not_not, cond_and, cond_or, Bool.and_eq_true, decide_eq_true_eq] at *); (simp only [Bool.or_eq_false_iff, Bool.and_eq_false_iff, decide_eq_false_iff_not, decide_eq_true_eq, bne_iff_ne, beq_iff_eq, bne_eq_false_iff_eq, beq_eq_false_iff_ne, ne_eq, true_and] at *; omega)) | (intros; (try simp only [Bool.not_not, cond_and, cond_or, Bool.and_eq_true, decide_eq_true_eq] at *); (simp only [List.length_drop, List.length_take, List.length_append, List.length_cons, List.length_nil] at *; omega)) | (intros; omega) | (intros; simp only [sized_iff, Bool.not_not, cond_and, cond_or, Bool.and_eq_true, decide_eq_true_eq] at *; omega) | (intros; simp_all [sized_iff, Bool.not_not]; done)))))))
def without (l : List Address) (a : Address) : (List Address) := without.go l a (l.length + 1) ((0 : Int)) ([])
def without.dec (cs : List (AV El)) : Option ((List Address) × Address) := popS 25 cs fun a0 c0 => popA Address.dec c0 fun a1 c1 => popE c1 (a0, a1)
def without.enc (x : (List Address) × Address) : List (AV El) := [.sl 25 (x.1 : List (El 25)) false, Address.av x.2]
theorem without.dec_ok : ∀ cs x, without.dec cs = some x → Imp (S := S) cs (without.enc x) := by
  intro cs x h
  unfold without.dec at h
  obtain ⟨a0, c0, h0, k0⟩ := popS_some (S := S) (t := 25) h
  obtain ⟨a1, c1, h1, k1⟩ := popA_some (S := S) Address.dec_ok h0
  obtain ⟨rfl, rfl⟩ := popE_some (S := S) h1
  exact (k0 _ (k1 _ (.refl _)))
def without.nf (l : List Address) (a : Address) (K : AV El → List (AObj El) → Prop) : Prop := evCode (mkCxI Tryd.prog S tab_r20Has 0 false sum_fIdx) (evFun (mkCxI Tryd.prog S tab_r20Has 0 false sum_fIdx) 3) (.loop (loopB Tryd.prog 27 [true, true, false, true, false])) ({ lo := 0, slots := [(6, .v (.int .i64 ((0 : Int)))), (5, .gs 1), (7, .gs 1), (4, .v (.slice none 0 0)), (3, .ref 0 0), (0, .sl 25 (l : List (El 25)) false), (1, .agg [.v (.int .i64 (a.Kind)), .v (.int .u64 (a.Bits))])], n := 28, objs := [.cells [.v (.int .i64 (a.Kind)), .v (.int .u64 (a.Bits))], .row 25 ([] : List (El 25))] }) (loopK (mkCxI Tryd.prog S tab_r20Has 0 false sum_fIdx) 3 27 [true, true, false, true, false] K)
theorem without.nf_ok (l : List Address) (a : Address) (K : AV El → List (AObj El) → Prop) : evFun (mkCxI Tryd.prog S tab_r20Has 0 false sum_fIdx) 4 27 [.sl 25 (l : List (El 25)) false, Address.av a] [] K = without.nf l a K := by kernel_rfl
theorem without.key (l : List Address) (a : Address) (hp : l.length ≤ 4611686018427) (v : (List Address)) (hv : v = without l a) : without.nf l a (fun r' H' => Gives r' H' (without.res v) (without.news v)) := by
  unfold without at hv
  unfold without.nf
  exact without.lp l a hp v _ _ _ hv (by unfold without.rng; (try clear hv); (try clear q1 q2); (try clear hk); (first | omega | (simp only [List.length_nil]; omega) | (simp; omega))) _ (by kernel_rfl) (by kernel_rfl)
def without.ct : Ct El := ctOf without.dec (fun x => [x.1.length ≤ 4611686018427]) (fun x => without.res (without x.1 x.2)) (fun x => without.news (without x.1 x.2))
theorem without.ok : CtOk (mkCx Tryd.prog S [] 0) 27 without.ct := ct_mk (C := (mkCxI Tryd.prog S tab_r20Has 0 false sum_fIdx)) (mkCxI_ok sigOk mixed tab_r20Has_ok 0 false sum_fIdx_ok) without.dec_ok (fun x => rfl) 4 (fun x hp => (without.nf_ok x.1 x.2 _).mpr (without.key x.1 x.2 (hp _ (List.mem_singleton.2 rfl)) _ rfl))
def tab_without : List (FuncId × Ct El) := (27, without.ct) :: tab_r20Has
theorem tab_without_ok : TabOk Tryd.prog S tab_without := ⟨without.ok, by kernel_rfl, tab_r20Has_ok⟩

/-! wireless/wirelessref20.Remove -/
def r20Remove.res (r : (List Address) × Int) : AV El := .tup [.gs 0, .v (.int .i64 (r.2))]
def r20Remove.news (r : (List Address) × Int) : List (AObj El) := [.row 25 (r.1 : List (El 25))]
def r20Remove.go (l : List Address) (a : Address) : Nat → Int → (List Address) → (List Address) × Int
  | 0, _, _ => ([], 0)
  | n0 + 1, i, out => cond (decide (i < (↑(List.length l) : Int))) (cond (!((List.getD l (Int.toNat i) Address.zero).Kind == a.Kind && (List.getD l (Int.toNat i) Address.zero).Bits == a.Bits)) (r20Remove.go l a n0 (IntKind.wrap IntKind.i64 (i + (1 : Int))) (out ++ [List.getD l (Int.toNat i) Address.zero])) (r20Remove.go l a n0 (IntKind.wrap IntKind.i64 (i + (1 : Int))) (out))) (cond ((↑(List.length out) : Int) == (↑(List.length l) : Int)) ((out, (6 : Int))) ((out, (0 : Int))))
def r20Remove.hd (l : List Address) (a : Address) (i : Int) (out : List Address) : St El := { lo := 0, slots := [(7, .v (.int .i64 (i))), (6, .gs 0), (3, .ref 1 0), (0, .sl 25 (l : List (El 25)) false)], n := 35, objs := [.row 25 (out : List (El 25)), .cells [.v (.int .i64 (a.Kind)), .v (.int .u64 (a.Bits))]] }
def r20Remove.st (l : List Address) (a : Address) (i : Int) (out : List Address) (J : St El → Prop) (K : AV El → List (AObj El) → Prop) : Prop := (List.length l ≤ (9223372036854775807 : Nat)) → (cond (decide (i < (↑(List.length l) : Int))) (Ob ((0 : Int) ≤ i ∧ i < (↑(List.length l) : Int)) ∧ (cond (!((List.getD l (Int.toNat i) Address.zero).Kind == a.Kind && (List.getD l (Int.toNat i) Address.zero).Bits == a.Bits)) (Ob ((0 : Int) ≤ i ∧ i < (↑(List.length l) : Int)) ∧ (Ob ((List.length out + List.length [List.getD l (Int.toNat i) Address.zero]) * (16 : Nat) ≤ (140737488355328 : Nat)) ∧ (J (r20Remove.hd l a (IntKind.wrap IntKind.i64 (i + (1 : Int))) (out ++ [List.getD l (Int.toNat i) Address.zero]))))) (J (r20Remove.hd l a (IntKind.wrap IntKind.i64 (i + (1 : Int))) (out))))) ((List.length out ≤ (9223372036854775807 : Nat)) → ((List.length l ≤ (9223372036854775807 : Nat)) → (cond ((↑(List.length out) : Int) == (↑(List.length l) : Int)) (K (.tup [.gs 0, .v (.int .i64 ((6 : Int)))]) [.row 25 (out : List (El 25)), .cells [.v (.int .i64 (a.Kind)), .v (.int .u64 (a.Bits))]]) (K (.tup [.gs 0, .v (.int .i64 ((0 : Int)))]) [.row 25 (out : List (El 25)), .cells [.v (.int .i64 (a.Kind)), .v (.int .u64 (a.Bits))]])))))
theorem r20Remove.st_ok (l : List Address) (a : Address) (i : Int) (out : List Address) (J : St El → Prop) (K : AV El → List (AObj El) → Prop) : evCode (mkCxI Tryd.prog S tab_without 0 false sum_fIdx) (evFun (mkCxI Tryd.prog S tab_without 0 false sum_fIdx) 3) (loopB Tryd.prog 21 [true, true, false, true, false]) (r20Remove.hd l a i out) (roundK (C := (mkCxI Tryd.prog S tab_without 0 false sum_fIdx)) [7, 6, 3, 0] [] J (loopK (mkCxI Tryd.prog S tab_without 0 false sum_fIdx) 3 21 [true, true, false, true, false] K)) = r20Remove.st l a i out J K := by kernel_rfl
def r20Remove.rng (l : List Address) (a : Address) (n0 : Nat) (i : Int) (out : List Address) : Prop := 0 ≤ i ∧ i ≤ l.length ∧ (l.length - i).toNat < n0 ∧ out.length ≤ i ∧ l.length ≤ 4611686018427
theorem r20Remove.lp (l : List Address) (a : Address) (hp : l.length ≤ 4611686018427) (v : (List Address) × Int) (n0 : Nat) (i : Int) (out : List Address) (hv : v = r20Remove.go l a n0 i out) (h0 : r20Remove.rng l a n0 i out) (st : St El) (q1 : okH [7, 6, 3, 0] [] st = true) (q2 : headS [7, 6, 3, 0] [] st = r20Remove.hd l a i out) : evCode (mkCxI Tryd.prog S tab_without 0 false sum_fIdx) (evFun (mkCxI Tryd.prog S tab_without 0 false sum_fIdx) 3) (.loop (loopB Tryd.prog 21 [true, true, false, true, false])) st (loopK (mkCxI Tryd.prog S tab_without 0 false sum_fIdx) 3 21 [true, true, false, true, false] (fun r' H' => Gives r' H' (r20Remove.res v) (r20Remove.news v))) := by
  refine loop_ev rfl (evFun_mono _ _) [7, 6, 3, 0] [] (X := Nat × Int × (List Address)) (fun x => r20Remove.hd l a x.2.1 x.2.2) (fun x => x.1) (fun x => r20Remove.rng l a x.1 x.2.1 x.2.2 ∧ v = r20Remove.go l a x.1 x.2.1 x.2.2) (n0, i, out) ⟨q1, q2⟩ ⟨h0, hv⟩ ?_
  clear h0 hv q1 q2
  rintro ⟨n0, i, out⟩ ⟨hr, hv⟩
  dsimp only at hr hv
  cases n0 with
  | zero => exact absurd hr (by unfold r20Remove.rng; omega)
  | succ n0 =>
  unfold r20Remove.rng at hr
  unfold r20Remove.go at hv
  refine (r20Remove.st_ok l a i out _ _).mpr ?_
  unfold r20Remove.st
  intro hlen
  revert hv; refine by_cond2 (fun hb hv => ?_) (fun hb hv => ?_)
  refine ⟨⟨?_⟩, ?_⟩; rotate_left
  revert hv; refine by_cond2 (fun hb hv => ?_) (fun hb hv => ?_)
  refine ⟨⟨?_⟩, ?_⟩; rotate_left
  refine ⟨⟨?_⟩, ?_⟩; rotate_left
  exact ⟨(n0, (IntKind.wrap IntKind.i64 (i + (1 : Int))), (out ++ [List.getD l (Int.toNat i) Address.zero])), (by kernel_rfl), Nat.lt_succ_self n0, (by dsimp only; unfold r20Remove.rng; (try clear hv); (try clear q1 q2); (try clear hk); (try simp only [decide_eq_true_eq, decide_eq_false_iff_not, Bool.not_eq_true, Bool.not_eq_false, Bool.and_eq_true, Bool.or_eq_true, Bool.not_not, cond_and, cond_or, List.length_append, List.length_cons, List.length_nil] at *); have := wi64s (i + (1 : Int)); omega), hv⟩
  exact ⟨(n0, (IntKind.wrap IntKind.i64 (i + (1 : Int))), (out)), (by kernel_rfl), Nat.lt_succ_self n0, (by dsimp only; unfold r20Remove.rng; (try clear hv); (try clear q1 q2); (try clear hk); (try simp only [decide_eq_true_eq, decide_eq_false_iff_not, Bool.not_eq_true, Bool.not_eq_false, Bool.and_eq_true, Bool.or_eq_true, Bool.not_not, cond_and, cond_or, List.length_append, List.length_cons, List.length_nil] at *); have := wi64s (i + (1 : Int)); omega), hv⟩
  intro hlen
  intro hlen
  revert hv; refine by_cond2 (fun hb hv => ?_) (fun hb hv => ?_)
  subst hv; exact And.intro (by kernel_rfl) (by kernel_rfl)
  subst hv; exact And.intro (by kernel_rfl) (by kernel_rfl)
  all_goals ((try clear hv); (try clear q1 q2); (try clear hk); (first | omega | ((try simp only [decide_eq_true_eq, decide_eq_false_iff_not, Bool.not_eq_true, Bool.not_eq_false, Bool.and_eq_true, Bool.or_eq_true, Bool.not_not, cond_and, cond_or, List.length_append, List.length_cons, List.length_nil] at *); (first | done | ((first | omega | (intros; (try simp only [Bool.not_not, cond_and, cond_or, Bool.and_eq_true, decide_eq_true_eq] at *); (have hf := pFind_lt ids a; omega)) | (intros; (try simp only [Bool.not_not, cond_and, cond_or, Bool.and_eq_true, decide_eq_true_eq] at *); (have hf := r9Find_lt ids a; omega)) | (intros; (try simp only [Bool.not_not, cond_and, cond_or, Bool.and_eq_true, decide_eq_true_eq] at *); (simp only [aClone, List.length_cons, List.length_nil] at *; omega)) | (intros; (try simp only [Bool.not_not, cond_and, cond_or, Bool.and_eq_true, decide_eq_true_eq] at *); (exact ⟨by decide, by simp⟩)) | (intros; (try simp only [Bool.not_not, cond_and, cond_or, Bool.and_eq_true, decide_eq_true_eq] at *); (exact pDerive_len _ _ (by omega) (by omega))) | (intros; (try simp only [Bool.not_not, cond_and, cond_or, Bool.and_eq_true, decide_eq_true_eq] at *); (exact pDerive_len2 _ _ (by omega) (by omega))) | (intros; (try simp only [Bool.not_not, cond_and, cond_or, Bool.and_eq_true, decide_eq_true_eq] at *); (exact band_nn rfl _ _)) | (intros; (try simp only [Bool.not_not, cond_and, cond_or, Bool.and_eq_true, decide_eq_true_eq] at *); (exact (wu64s _).2.1)) | (intros; (try simp only [Bool.not_not, cond_and, cond_or, Bool.and_eq_true, decide_eq_true_eq] at *); (simp only [Bool.or_eq_false_iff, Bool.and_eq_false_iff, decide_eq_false_iff_not, decide_eq_true_eq, bne_iff_ne, beq_iff_eq, bne_eq_false_iff_eq, beq_eq_false_iff_ne, ne_eq, true_and] at *; omega)) | (intros; (try simp only [Bool.not_not, cond_and, cond_or, Bool.and_eq_true, decide_eq_true_eq] at *); (simp only [List.length_drop, List.length_take, List.length_append, List.length_cons, List.length_nil] at *; omega)) | (intros; omega) | (intros; simp only [sized_iff, Bool.not_not, cond_and, cond_or, Bool.and_eq_true, decide_eq_true_eq] at *; omega) | (intros; simp_all [sized_iff, Bool.not_not]; done)))))))
def r20Remove (l : List Address) (a : Address) : (List Address) × Int := r20Remove.go l a (l.length + 1) ((0 : Int)) ([])
def r20Remove.dec (cs : List (AV El)) : Option ((List Address) × Address) := popS 25 cs fun a0 c0 => popA Address.dec c0 fun a1 c1 => popE c1 (a0, a1)
def r20Remove.enc (x : (List Address) × Address) : List (AV El) := [.sl 25 (x.1 : List (El 25)) false, Address.av x.2]
theorem r20Remove.dec_ok : ∀ cs x, r20Remove.dec cs = some x → Imp (S := S) cs (r20Remove.enc x) := by
  intro cs x h
  unfold r20Remove.dec at h
  obtain ⟨a0, c0, h0, k0⟩ := popS_some (S := S) (t := 25) h
  obtain ⟨a1, c1, h1, k1⟩ := popA_some (S := S) Address.dec_ok h0
  obtain ⟨rfl, rfl⟩ := popE_some (S := S) h1
  exact (k0 _ (k1 _ (.refl _)))
def r20Remove.nf (l : List Address) (a : Address) (K : AV El → List (AObj El) → Prop) : Prop := evCode (mkCxI Tryd.prog S tab_without 0 false sum_fIdx) (evFun (mkCxI Tryd.prog S tab_without 0 false sum_fIdx) 3) (.loop (loopB Tryd.prog 21 [true, true, false, true, false])) ({ lo := 0, slots := [(7, .v (.int .i64 ((0 : Int)))), (6, .gs 1), (8, .gs 1), (5, .v (.int .i64 ((0 : Int)))), (4, .v (.slice none 0 0)), (3, .ref 0 0), (0, .sl 25 (l : List (El 25)) false), (1, .agg [.v (.int .i64 (a.Kind)), .v (.int .u64 (a.Bits))])], n := 35, objs := [.cells [.v (.int .i64 (a.Kind)), .v (.int .u64 (a.Bits))], .row 25 ([] : List (El 25))] }) (loopK (mkCxI Tryd.prog S tab_without 0 false sum_fIdx) 3 21 [true, true, false, true, false] K)
theorem r20Remove.nf_ok (l : List Address) (a : Address) (K : AV El → List (AObj El) → Prop) : evFun (mkCxI Tryd.prog S tab_without 0 false sum_fIdx) 4 21 [.sl 25 (l : List (El 25)) false, Address.av a] [] K = r20Remove.nf l a K := by kernel_rfl
theorem r20Remove.key (l : List Address) (a : Address) (hp : l.length ≤ 4611686018427) (v : (List Address) × Int) (hv : v = r20Remove l a) : r20Remove.nf l a (fun r' H' => Gives r' H' (r20Remove.res v) (r20Remove.news v)) := by
  unfold r20Remove at hv
  unfold r20Remove.nf
  exact r20Remove.lp l a hp v _ _ _ hv (by unfold r20Remove.rng; (try clear hv); (try clear q1 q2); (try clear hk); (first | omega | (simp only [List.length_nil]; omega) | (simp; omega))) _ (by kernel_rfl) (by kernel_rfl)
def r20Remove.ct : Ct El := ctOf r20Remove.dec (fun x => [x.1.length ≤ 4611686018427]) (fun x => r20Remove.res (r20Remove x.1 x.2)) (fun x => r20Remove.news (r20Remove x.1 x.2))
theorem r20Remove.ok : CtOk (mkCx Tryd.prog S [] 0) 21 r20Remove.ct := ct_mk (C := (mkCxI Tryd.prog S tab_without 0 false sum_fIdx)) (mkCxI_ok sigOk mixed tab_without_ok 0 false sum_fIdx_ok) r20Remove.dec_ok (fun x => rfl) 4 (fun x hp => (r20Remove.nf_ok x.1 x.2 _).mpr (r20Remove.key x.1 x.2 (hp _ (List.mem_singleton.2 rfl)) _ rfl))
def tab_r20Remove : List (FuncId × Ct El) := (21, r20Remove.ct) :: tab_without
theorem tab_r20Remove_ok : TabOk Tryd.prog S tab_r20Remove := ⟨r20Remove.ok, by kernel_rfl, tab_without_ok⟩

end Go.Aw.W
