/- Contracts of the seat (printed by ct.py). -/
import Derived.Test.YtcpcakglnckpeaaDoorXW14
set_option linter.unusedVariables false
set_option linter.unusedSimpArgs false
set_option maxRecDepth 20000
set_option maxHeartbeats 1000000
namespace Go.Aw.W
open Go Go.Aw Go.Proofs
attribute [local irreducible] evCode evFun evOps evDs evOne ctxK loopK loopB subC bodyC headS okH roundK

/-! slices.IndexFunc[[]wireless/api.Address,wireless/api.Address] -/
def dIdx.Hs (a : Address) (s : List Address) : List (AObj El) := [.cells (Address.cells a), .row 25 (s : List (El 25))]
def dIdx.res (r : Int) : AV El := .v (.int .i64 (r))
def dIdx.news (r : Int) : List (AObj El) := []
def dIdx.go (a : Address) (s : List Address) : Nat → Int → Int
  | 0, _ => 0
  | n0 + 1, i => cond (decide (i < (↑(List.length s) : Int))) (cond ((List.getD s (Int.toNat i) Address.zero).Kind == a.Kind && (List.getD s (Int.toNat i) Address.zero).Bits == a.Bits) (i) (dIdx.go a s n0 (IntKind.wrap IntKind.i64 (i + (1 : Int))))) ((-1 : Int))
def dIdx.hd (a : Address) (s : List Address) (i : Int) : St El := { lo := 2, slots := [(8, .v (.int .i64 (i))), (7, .v (.int .i64 ((↑(List.length s) : Int)))), (0, .gs 1), (1, .clo 48 [.ref 0 0])], n := 19, objs := [.cells [.v (.int .i64 (a.Kind)), .v (.int .u64 (a.Bits))], .row 25 (s : List (El 25))] }
def dIdx.st (a : Address) (s : List Address) (i : Int) (J : St El → Prop) (K : AV El → List (AObj El) → Prop) : Prop := cond (decide (i < (↑(List.length s) : Int))) (Ob ((0 : Int) ≤ i ∧ i < (↑(List.length s) : Int)) ∧ (Ob (Int.toNat i < List.length s) ∧ (cond ((List.getD s (Int.toNat i) Address.zero).Kind == a.Kind && (List.getD s (Int.toNat i) Address.zero).Bits == a.Bits) (K (.v (.int .i64 (i))) [.cells [.v (.int .i64 (a.Kind)), .v (.int .u64 (a.Bits))], .row 25 (s : List (El 25)), .cells [.v (.int .i64 ((List.getD s (Int.toNat i) Address.zero).Kind)), .v (.int .u64 ((List.getD s (Int.toNat i) Address.zero).Bits))]]) (J (dIdx.hd a s (IntKind.wrap IntKind.i64 (i + (1 : Int)))))))) (K (.v (.int .i64 ((-1 : Int)))) [.cells [.v (.int .i64 (a.Kind)), .v (.int .u64 (a.Bits))], .row 25 (s : List (El 25))])
theorem dIdx.st_ok (a : Address) (s : List Address) (i : Int) (J : St El → Prop) (K : AV El → List (AObj El) → Prop) : evCode (mkCxI Tryd.prog S tab_r20Remove 0 true sum_fIdx) (evFun (mkCxI Tryd.prog S tab_r20Remove 0 true sum_fIdx) 3) (loopB Tryd.prog 68 [true, false, true, false]) (dIdx.hd a s i) (roundK (C := (mkCxI Tryd.prog S tab_r20Remove 0 true sum_fIdx)) [8, 7, 0, 1] [] J (loopK (mkCxI Tryd.prog S tab_r20Remove 0 true sum_fIdx) 3 68 [true, false, true, false] K)) = dIdx.st a s i J K := by kernel_rfl
def dIdx.rng (a : Address) (s : List Address) (n0 : Nat) (i : Int) : Prop := 0 ≤ i ∧ i ≤ s.length ∧ (s.length - i).toNat < n0 ∧ s.length ≤ 9223372036854775807
theorem dIdx.lp (a : Address) (s : List Address) (v : Int) (n0 : Nat) (i : Int) (hv : v = dIdx.go a s n0 i) (h0 : dIdx.rng a s n0 i) (st : St El) (q1 : okH [8, 7, 0, 1] [] st = true) (q2 : headS [8, 7, 0, 1] [] st = dIdx.hd a s i) : evCode (mkCxI Tryd.prog S tab_r20Remove 0 true sum_fIdx) (evFun (mkCxI Tryd.prog S tab_r20Remove 0 true sum_fIdx) 3) (.loop (loopB Tryd.prog 68 [true, false, true, false])) st (loopK (mkCxI Tryd.prog S tab_r20Remove 0 true sum_fIdx) 3 68 [true, false, true, false] (sumK [] 2 (dIdx.res v) (dIdx.Hs a s))) := by
  refine loop_ev rfl (evFun_mono _ _) [8, 7, 0, 1] [] (X := Nat × Int) (fun x => dIdx.hd a s x.2) (fun x => x.1) (fun x => dIdx.rng a s x.1 x.2 ∧ v = dIdx.go a s x.1 x.2) (n0, i) ⟨q1, q2⟩ ⟨h0, hv⟩ ?_
  clear h0 hv q1 q2
  rintro ⟨n0, i⟩ ⟨hr, hv⟩
  dsimp only at hr hv
  cases n0 with
  | zero => exact absurd hr (by unfold dIdx.rng; omega)
  | succ n0 =>
  unfold dIdx.rng at hr
  unfold dIdx.go at hv
  refine (dIdx.st_ok a s i _ _).mpr ?_
  unfold dIdx.st
  revert hv; refine by_cond2 (fun hb hv => ?_) (fun hb hv => ?_)
  refine ⟨⟨?_⟩, ?_⟩; rotate_left
  refine ⟨⟨?_⟩, ?_⟩; rotate_left
  revert hv; refine by_cond2 (fun hb hv => ?_) (fun hb hv => ?_)
  subst hv; exact And.intro (by kernel_rfl) (by kernel_rfl)
  exact ⟨(n0, (IntKind.wrap IntKind.i64 (i + (1 : Int)))), (by kernel_rfl), Nat.lt_succ_self n0, (by dsimp only; unfold dIdx.rng; (try clear hv); (try clear q1 q2); (try clear hk); (try simp only [decide_eq_true_eq, decide_eq_false_iff_not, Bool.not_eq_true, Bool.not_eq_false, Bool.and_eq_true, Bool.or_eq_true, Bool.not_not, cond_and, cond_or, List.length_append, List.length_cons, List.length_nil] at *); have := wi64s (i + (1 : Int)); omega), hv⟩
  subst hv; exact And.intro (by kernel_rfl) (by kernel_rfl)
  all_goals ((try clear hv); (try clear q1 q2); (try clear hk); (first | omega | ((try simp only [decide_eq_true_eq, decide_eq_false_iff_not, Bool.not_eq_true, Bool.not_eq_false, Bool.and_eq_true, Bool.or_eq_true, Bool.not_not, cond_and, cond_or, List.length_append, List.length_cons, List.length_nil] at *); (first | done | ((first | omega | (intros; (try simp only [Bool.not_not, cond_and, cond_or, Bool.and_eq_true, decide_eq_true_eq] at *); (have hf := pFind_lt ids a; omega)) | (intros; (try simp only [Bool.not_not, cond_and, cond_or, Bool.and_eq_true, decide_eq_true_eq] at *); (have hf := r9Find_lt ids a; omega)) | (intros; (try simp only [Bool.not_not, cond_and, cond_or, Bool.and_eq_true, decide_eq_true_eq] at *); (simp only [aClone, List.length_cons, List.length_nil] at *; omega)) | (intros; (try simp only [Bool.not_not, cond_and, cond_or, Bool.and_eq_true, decide_eq_true_eq] at *); (exact ⟨by decide, by simp⟩)) | (intros; (try simp only [Bool.not_not, cond_and, cond_or, Bool.and_eq_true, decide_eq_true_eq] at *); (exact pDerive_len _ _ (by omega) (by omega))) | (intros; (try simp only [Bool.not_not, cond_and, cond_or, Bool.and_eq_true, decide_eq_true_eq] at *); (exact pDerive_len2 _ _ (by omega) (by omega))) | (intros; (try simp only [Bool.not_not, cond_and, cond_or, Bool.and_eq_true, decide_eq_true_eq] at *); (exact band_nn rfl _ _)) | (intros; (try simp only [Bool.not_not, cond_and, cond_or, Bool.and_eq_true, decide_eq_true_eq] at *); (exact (wu64s _).2.1)) | (intros; (try simp only [Bool.not_not, cond_and, cond_or, Bool.and_eq_true, decide_eq_true_eq] at *); (simp only [Bool.or_eq_false_iff, Bool.and_eq_false_iff, decide_eq_false_iff_not, decide_eq_true_eq, bne_iff_ne, beq_iff_eq, bne_eq_false_iff_eq, beq_eq_false_iff_ne, ne_eq, true_and] at *; omega)) | (intros; (try simp only [Bool.not_not, cond_and, cond_or, Bool.and_eq_true, decide_eq_true_eq] at *); (simp only [List.length_drop, List.length_take, List.length_append, List.length_cons, List.length_nil] at *; omega)) | (intros; omega) | (intros; simp only [sized_iff, Bool.not_not, cond_and, cond_or, Bool.and_eq_true, decide_eq_true_eq] at *; omega) | (intros; simp_all [sized_iff, Bool.not_not]; done)))))))
def dIdx (a : Address) (s : List Address) : Int := dIdx.go a s (s.length + 1) ((0 : Int))
def dIdx.nf (a : Address) (s : List Address) (K : AV El → List (AObj El) → Prop) : Prop := (List.length s ≤ (9223372036854775807 : Nat)) → (evCode (mkCxI Tryd.prog S tab_r20Remove 0 true sum_fIdx) (evFun (mkCxI Tryd.prog S tab_r20Remove 0 true sum_fIdx) 3) (.loop (loopB Tryd.prog 68 [true, false, true, false])) ({ lo := 2, slots := [(8, .v (.int .i64 ((0 : Int)))), (7, .v (.int .i64 ((↑(List.length s) : Int)))), (6, .gs 1), (4, .v (.int .i64 ((0 : Int)))), (0, .gs 1), (1, .clo 48 [.ref 0 0])], n := 19, objs := [.cells [.v (.int .i64 (a.Kind)), .v (.int .u64 (a.Bits))], .row 25 (s : List (El 25))] }) (loopK (mkCxI Tryd.prog S tab_r20Remove 0 true sum_fIdx) 3 68 [true, false, true, false] K))
theorem dIdx.nf_ok (a : Address) (s : List Address) (K : AV El → List (AObj El) → Prop) : evFun (mkCxI Tryd.prog S tab_r20Remove 0 true sum_fIdx) 4 68 [.gs 1, .clo 48 (refsOf [(0, 0)])] [.cells (Address.cells a), .row 25 (s : List (El 25))] K = dIdx.nf a s K := by kernel_rfl
theorem dIdx.key (a : Address) (s : List Address) (v : Int) (hv : v = dIdx a s) : dIdx.nf a s (sumK [] 2 (dIdx.res v) (dIdx.Hs a s)) := by
  unfold dIdx at hv
  unfold dIdx.nf
  intro hlen
  exact dIdx.lp a s v _ _ hv (by unfold dIdx.rng; (try clear hv); (try clear q1 q2); (try clear hk); (first | omega | (simp only [List.length_nil]; omega) | (simp; omega))) _ (by kernel_rfl) (by kernel_rfl)
def dIdx.sdec (args : List (AV El)) (H : List (AObj El)) : Option (Address × (List Address)) := popG 1 args fun c0 => popK 48 [(0, 0)] c0 fun c1 => (popE c1 ()).bind fun _ => popHC Address.dec H fun a2 c2 => popHR 25 c2 fun a3 c3 => popHE c3 (a2, a3)
def dIdx.senc (x : Address × (List Address)) : List (AV El) := [.gs 1, .clo 48 (refsOf [(0, 0)])]
def dIdx.sencH (x : Address × (List Address)) : List (AObj El) := [.cells (Address.cells (x.1)), .row 25 ((x.2) : List (El 25))]
theorem dIdx.sdec_ok : ∀ args H x, dIdx.sdec args H = some x → Imp (S := S) args (dIdx.senc x) ∧ HImp (S := S) H (dIdx.sencH x) := by
  intro args H x h
  unfold dIdx.sdec at h
  obtain ⟨c0, rfl, h0⟩ := popG_some (El := El) h
  obtain ⟨c1, rfl, h1⟩ := popK_some (El := El) h0
  obtain ⟨u0, hu0, hb⟩ := Option.bind_eq_some_iff.1 h1
  obtain ⟨rfl, _⟩ := popE_some (S := S) hu0
  obtain ⟨a2, c2, h2, k2⟩ := popHC_some (S := S) Address.dec_ok hb
  obtain ⟨a3, c3, h3, k3⟩ := popHR_some (S := S) (t := 25) h2
  obtain ⟨rfl, rfl⟩ := popHE_some (El := El) h3
  exact ⟨(.cons (.cons (.refl _))), (k2 _ (k3 _ trivial))⟩
def sum_dIdx : SumI El := sumOf 68 dIdx.sdec (fun _ => []) (fun x => dIdx.res (dIdx x.1 x.2)) (fun x => dIdx.Hs x.1 x.2) sum_fIdx
theorem sum_dIdx_ok : SumTab Tryd.prog S sum_dIdx := sum_mk (C := (mkCxI Tryd.prog S tab_r20Remove 0 true sum_fIdx)) (mkCxI_ok sigOk mixed tab_r20Remove_ok 0 true sum_fIdx_ok) dIdx.sdec_ok (by kernel_rfl) 4 [] (fun x _ => (dIdx.nf_ok x.1 x.2 _).mpr (dIdx.key x.1 x.2 _ rfl)) sum_fIdx_ok

end Go.Aw.W
