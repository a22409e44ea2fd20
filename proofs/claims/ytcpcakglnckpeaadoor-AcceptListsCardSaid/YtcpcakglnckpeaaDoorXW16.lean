/- Contracts of the seat (printed by ct.py). -/
import Derived.Test.YtcpcakglnckpeaaDoorXW15
set_option linter.unusedVariables false
set_option linter.unusedSimpArgs false
set_option maxRecDepth 20000
set_option maxHeartbeats 1000000
namespace Go.Aw.W
open Go Go.Aw Go.Proofs
attribute [local irreducible] evCode evFun evOps evDs evOne ctxK loopK loopB subC bodyC headS okH roundK

theorem dIdx_go_rng (a : Address) (s : List Address) (hl : s.length ≤ 4611686018427387904) : ∀ (n : Nat) (i : Int), 0 ≤ i → i ≤ s.length → (s.length - i).toNat < n → dIdx.go a s n i = -1 ∨ (0 ≤ dIdx.go a s n i ∧ dIdx.go a s n i < s.length)
  | 0, i, h0, h1, h2 => by omega
  | n + 1, i, h0, h1, h2 => by
    unfold dIdx.go
    by_cases hi : i < s.length
    · rw [decide_eq_true hi, cond_true]
      generalize ((List.getD s (Int.toNat i) Address.zero).Kind == a.Kind && (List.getD s (Int.toNat i) Address.zero).Bits == a.Bits) = m
      cases m
      · rw [cond_false, wi64 (i + (1 : Int)) (by omega) (by omega)]
        exact dIdx_go_rng a s hl n (i + 1) (by omega) (by omega) (by omega)
      · exact .inr ⟨h0, hi⟩
    · rw [decide_eq_false hi, cond_false]; exact .inl rfl
theorem dIdx_rng (a : Address) (s : List Address) (hl : s.length ≤ 4611686018427387904) : dIdx a s = -1 ∨ (0 ≤ dIdx a s ∧ dIdx a s < s.length) := dIdx_go_rng a s hl _ _ (by omega) (by omega) (by omega)

/-! slices.DeleteFunc[[]wireless/api.Address,wireless/api.Address] -/
def dDel.Hs (a : Address) (s : List Address) : List (AObj El) := [.cells (Address.cells a), .gone]
def dDel.res (r : (List Address)) : AV El := .sl 25 (r : List (El 25)) false
def dDel.news (r : (List Address)) : List (AObj El) := []
def dDel.go (a : Address) (s : List Address) : Nat → Int → Int → (List Address) → (List Address)
  | 0, _, _, _ => []
  | n0 + 1, j, p, c => cond (decide (j < (↑(List.length c) : Int))) (cond (!((List.getD c (Int.toNat j) Address.zero).Kind == a.Kind && (List.getD c (Int.toNat j) Address.zero).Bits == a.Bits)) (dDel.go a s n0 (IntKind.wrap IntKind.i64 (j + (1 : Int))) (IntKind.wrap IntKind.i64 (p + (1 : Int))) (List.set c (Int.toNat p) (List.getD c (Int.toNat j) Address.zero))) (dDel.go a s n0 (IntKind.wrap IntKind.i64 (j + (1 : Int))) (p) (c))) (List.drop (Int.toNat (0 : Int))
  (List.take (Int.toNat p)
    (List.take (Int.toNat p) c ++
      List.replicate (List.length c - Int.toNat p) { Kind := (0 : Int), Bits := (0 : Int) : Address })))
def dDel.hd (a : Address) (s : List Address) (j : Int) (p : Int) (c : List Address) : St El := { lo := 2, slots := [(6, .v (.int .i64 (j))), (5, .v (.int .i64 (p))), (0, .gs 1), (1, .clo 48 [.ref 0 0])], n := 42, objs := [.cells [.v (.int .i64 (a.Kind)), .v (.int .u64 (a.Bits))], .row 25 (c : List (El 25))] }
def dDel.st (a : Address) (s : List Address) (j : Int) (p : Int) (c : List Address) (J : St El → Prop) (K : AV El → List (AObj El) → Prop) : Prop := (List.length c ≤ (9223372036854775807 : Nat)) → (cond (decide (j < (↑(List.length c) : Int))) (Ob ((0 : Int) ≤ j ∧ j < (↑(List.length c) : Int)) ∧ (Ob (Int.toNat j < List.length c) ∧ (cond (!((List.getD c (Int.toNat j) Address.zero).Kind == a.Kind && (List.getD c (Int.toNat j) Address.zero).Bits == a.Bits)) (Ob ((0 : Int) ≤ p ∧ p < (↑(List.length c) : Int)) ∧ (Ob (Int.toNat p < List.length c) ∧ (J (dDel.hd a s (IntKind.wrap IntKind.i64 (j + (1 : Int))) (IntKind.wrap IntKind.i64 (p + (1 : Int))) (List.set c (Int.toNat p) (List.getD c (Int.toNat j) Address.zero)))))) (J (dDel.hd a s (IntKind.wrap IntKind.i64 (j + (1 : Int))) (p) (c)))))) (Ob ((0 : Int) ≤ p ∧ p ≤ (↑(List.length c) : Int)) ∧ (Ob ((0 : Int) ≤ (0 : Int) ∧
  (0 : Int) ≤ p ∧
    p ≤
      (↑(List.length
            (List.take (Int.toNat p) c ++
              List.replicate (List.length c - Int.toNat p) { Kind := (0 : Int), Bits := (0 : Int) : Address })) :
        Int)) ∧ (K (.sl 25 (List.drop (Int.toNat (0 : Int))
  (List.take (Int.toNat p)
    (List.take (Int.toNat p) c ++
      List.replicate (List.length c - Int.toNat p) { Kind := (0 : Int), Bits := (0 : Int) : Address })) : List (El 25)) false) [.cells [.v (.int .i64 (a.Kind)), .v (.int .u64 (a.Bits))], .frozen 25 (List.take (Int.toNat p) c ++
  List.replicate (List.length c - Int.toNat p) { Kind := (0 : Int), Bits := (0 : Int) : Address } : List (El 25))]))))
theorem dDel.st_ok (a : Address) (s : List Address) (j : Int) (p : Int) (c : List Address) (J : St El → Prop) (K : AV El → List (AObj El) → Prop) : evCode (mkCxI Tryd.prog S tab_r20Remove 0 true sum_dIdx) (evFun (mkCxI Tryd.prog S tab_r20Remove 0 true sum_dIdx) 3) (loopB Tryd.prog 47 [true, true, true, false, true, false]) (dDel.hd a s j p c) (roundK (C := (mkCxI Tryd.prog S tab_r20Remove 0 true sum_dIdx)) [6, 5, 0, 1] [] J (loopK (mkCxI Tryd.prog S tab_r20Remove 0 true sum_dIdx) 3 47 [true, true, true, false, true, false] K)) = dDel.st a s j p c J K := by kernel_rfl
def dDel.rng (a : Address) (s : List Address) (n0 : Nat) (j : Int) (p : Int) (c : List Address) : Prop := 0 ≤ p ∧ p + 1 ≤ j ∧ j ≤ c.length ∧ (c.length - j).toNat < n0 ∧ c.length ≤ 4611686018427
theorem dDel.lp (a : Address) (s : List Address) (hp : s.length ≤ 4611686018427) (v : (List Address)) (n0 : Nat) (j : Int) (p : Int) (c : List Address) (hv : v = dDel.go a s n0 j p c) (h0 : dDel.rng a s n0 j p c) (st : St El) (q1 : okH [6, 5, 0, 1] [] st = true) (q2 : headS [6, 5, 0, 1] [] st = dDel.hd a s j p c) : evCode (mkCxI Tryd.prog S tab_r20Remove 0 true sum_dIdx) (evFun (mkCxI Tryd.prog S tab_r20Remove 0 true sum_dIdx) 3) (.loop (loopB Tryd.prog 47 [true, true, true, false, true, false])) st (loopK (mkCxI Tryd.prog S tab_r20Remove 0 true sum_dIdx) 3 47 [true, true, true, false, true, false] (sumK [1] 2 (dDel.res v) (dDel.Hs a s))) := by
  refine loop_ev rfl (evFun_mono _ _) [6, 5, 0, 1] [] (X := Nat × Int × Int × (List Address)) (fun x => dDel.hd a s x.2.1 x.2.2.1 x.2.2.2) (fun x => x.1) (fun x => dDel.rng a s x.1 x.2.1 x.2.2.1 x.2.2.2 ∧ v = dDel.go a s x.1 x.2.1 x.2.2.1 x.2.2.2) (n0, j, p, c) ⟨q1, q2⟩ ⟨h0, hv⟩ ?_
  clear h0 hv q1 q2
  rintro ⟨n0, j, p, c⟩ ⟨hr, hv⟩
  dsimp only at hr hv
  cases n0 with
  | zero => exact absurd hr (by unfold dDel.rng; omega)
  | succ n0 =>
  unfold dDel.rng at hr
  unfold dDel.go at hv
  refine (dDel.st_ok a s j p c _ _).mpr ?_
  unfold dDel.st
  intro hlen
  revert hv; refine by_cond2 (fun hb hv => ?_) (fun hb hv => ?_)
  refine ⟨⟨?_⟩, ?_⟩; rotate_left
  refine ⟨⟨?_⟩, ?_⟩; rotate_left
  revert hv; refine by_cond2 (fun hb hv => ?_) (fun hb hv => ?_)
  refine ⟨⟨?_⟩, ?_⟩; rotate_left
  refine ⟨⟨?_⟩, ?_⟩; rotate_left
  exact ⟨(n0, (IntKind.wrap IntKind.i64 (j + (1 : Int))), (IntKind.wrap IntKind.i64 (p + (1 : Int))), (List.set c (Int.toNat p) (List.getD c (Int.toNat j) Address.zero))), (by kernel_rfl), Nat.lt_succ_self n0, (by dsimp only; unfold dDel.rng; (try clear hv); (try clear q1 q2); (try clear hk); ((try simp only [decide_eq_true_eq, List.length_set] at *); have h2 := wi64 (j + (1 : Int)) (by omega) (by omega); have h3 := wi64 (p + (1 : Int)) (by omega) (by omega); omega)), hv⟩
  exact ⟨(n0, (IntKind.wrap IntKind.i64 (j + (1 : Int))), (p), (c)), (by kernel_rfl), Nat.lt_succ_self n0, (by dsimp only; unfold dDel.rng; (try clear hv); (try clear q1 q2); (try clear hk); ((try simp only [decide_eq_true_eq, List.length_set] at *); have h2 := wi64 (j + (1 : Int)) (by omega) (by omega); have h3 := wi64 (p + (1 : Int)) (by omega) (by omega); omega)), hv⟩
  refine ⟨⟨?_⟩, ?_⟩; rotate_left
  refine ⟨⟨?_⟩, ?_⟩; rotate_left
  subst hv; exact And.intro (by kernel_rfl) (by kernel_rfl)
  all_goals ((try clear hv); (try clear q1 q2); (try clear hk); (first | omega | ((try simp only [decide_eq_true_eq, decide_eq_false_iff_not, Bool.not_eq_true, Bool.not_eq_false, Bool.and_eq_true, Bool.or_eq_true, Bool.not_not, cond_and, cond_or, List.length_append, List.length_cons, List.length_nil] at *); (first | done | ((first | omega | (intros; (try simp only [Bool.not_not, cond_and, cond_or, Bool.and_eq_true, decide_eq_true_eq] at *); (exact band_nn rfl _ _)) | (intros; (try simp only [Bool.not_not, cond_and, cond_or, Bool.and_eq_true, decide_eq_true_eq] at *); (exact (wu64s _).2.1)) | (intros; (try simp only [Bool.not_not, cond_and, cond_or, Bool.and_eq_true, decide_eq_true_eq] at *); (simp only [Bool.or_eq_false_iff, Bool.and_eq_false_iff, decide_eq_false_iff_not, decide_eq_true_eq, bne_iff_ne, beq_iff_eq, bne_eq_false_iff_eq, beq_eq_false_iff_ne, ne_eq, true_and] at *; omega)) | (intros; (try simp only [Bool.not_not, cond_and, cond_or, Bool.and_eq_true, decide_eq_true_eq] at *); (simp only [List.length_drop, List.length_take, List.length_append, List.length_cons, List.length_nil] at *; omega)) | (intros; omega) | (intros; simp only [Bool.not_not, cond_and, cond_or, Bool.and_eq_true, decide_eq_true_eq] at *; omega) | (intros; simp_all [Bool.not_not]; done)))))))
def dDel (a : Address) (s : List Address) : (List Address) := cond (dIdx a s == (-1 : Int)) (s) (dDel.go a s (s.length + 1) (IntKind.wrap IntKind.i64 (dIdx a s + (1 : Int))) (dIdx a s) (s))
def dDel.nf (a : Address) (s : List Address) (K : AV El → List (AObj El) → Prop) : Prop := cond (dIdx a s == (-1 : Int)) (K (.gs 1) [.cells [.v (.int .i64 (a.Kind)), .v (.int .u64 (a.Bits))], .row 25 (s : List (El 25))]) (evCode (mkCxI Tryd.prog S tab_r20Remove 0 true sum_dIdx) (evFun (mkCxI Tryd.prog S tab_r20Remove 0 true sum_dIdx) 3) (.loop (loopB Tryd.prog 47 [true, true, true, false, true, false])) ({ lo := 2, slots := [(6, .v (.int .i64 (IntKind.wrap IntKind.i64 (dIdx a s + (1 : Int))))), (15, .v (.int .i64 (IntKind.wrap IntKind.i64 (dIdx a s + (1 : Int))))), (14, .v (.int .i64 (dIdx a s))), (12, .v (.bool (dIdx a s == (-1 : Int)))), (11, .v (.int .i64 (dIdx a s))), (5, .v (.int .i64 (dIdx a s))), (10, .v (.int .i64 (dIdx a s))), (9, .clo 48 [.ref 0 0]), (8, .gs 1), (4, .v (.slice none 0 0)), (0, .gs 1), (1, .clo 48 [.ref 0 0])], n := 42, objs := [.cells [.v (.int .i64 (a.Kind)), .v (.int .u64 (a.Bits))], .row 25 (s : List (El 25))] }) (loopK (mkCxI Tryd.prog S tab_r20Remove 0 true sum_dIdx) 3 47 [true, true, true, false, true, false] K))
theorem dDel.nf_ok (a : Address) (s : List Address) (K : AV El → List (AObj El) → Prop) : evFun (mkCxI Tryd.prog S tab_r20Remove 0 true sum_dIdx) 4 47 [.gs 1, .clo 48 (refsOf [(0, 0)])] [.cells (Address.cells a), .row 25 (s : List (El 25))] K = dDel.nf a s K := by kernel_rfl
theorem dDel.key (a : Address) (s : List Address) (hp : s.length ≤ 4611686018427) (v : (List Address)) (hv : v = dDel a s) : dDel.nf a s (sumK [1] 2 (dDel.res v) (dDel.Hs a s)) := by
  unfold dDel at hv
  unfold dDel.nf
  revert hv; refine by_cond2 (fun hb hv => ?_) (fun hb hv => ?_)
  · subst hv; exact And.intro (by kernel_rfl) (by kernel_rfl)
  · exact dDel.lp a s hp v _ _ _ _ hv (by unfold dDel.rng; (try clear hv); (try clear q1 q2); (try clear hk); (have hd := dIdx_rng a s (by omega); (try simp only [beq_eq_false_iff_ne, ne_eq] at *); have h2 := wi64 (dIdx a s + (1 : Int)) (by omega) (by omega); omega)) _ (by kernel_rfl) (by kernel_rfl)
def dDel.sdec (args : List (AV El)) (H : List (AObj El)) : Option (Address × (List Address)) := popG 1 args fun c0 => popK 48 [(0, 0)] c0 fun c1 => (popE c1 ()).bind fun _ => popHC Address.dec H fun a2 c2 => popHR 25 c2 fun a3 c3 => popHE c3 (a2, a3)
def dDel.senc (x : Address × (List Address)) : List (AV El) := [.gs 1, .clo 48 (refsOf [(0, 0)])]
def dDel.sencH (x : Address × (List Address)) : List (AObj El) := [.cells (Address.cells (x.1)), .row 25 ((x.2) : List (El 25))]
theorem dDel.sdec_ok : ∀ args H x, dDel.sdec args H = some x → Imp (S := S) args (dDel.senc x) ∧ HImp (S := S) H (dDel.sencH x) := by
  intro args H x h
  unfold dDel.sdec at h
  obtain ⟨c0, rfl, h0⟩ := popG_some (El := El) h
  obtain ⟨c1, rfl, h1⟩ := popK_some (El := El) h0
  obtain ⟨u0, hu0, hb⟩ := Option.bind_eq_some_iff.1 h1
  obtain ⟨rfl, _⟩ := popE_some (S := S) hu0
  obtain ⟨a2, c2, h2, k2⟩ := popHC_some (S := S) Address.dec_ok hb
  obtain ⟨a3, c3, h3, k3⟩ := popHR_some (S := S) (t := 25) h2
  obtain ⟨rfl, rfl⟩ := popHE_some (El := El) h3
  exact ⟨(.cons (.cons (.refl _))), (k2 _ (k3 _ trivial))⟩
def sum_dDel : SumI El := sumOf 47 dDel.sdec (fun x => [x.2.length ≤ 4611686018427]) (fun x => dDel.res (dDel x.1 x.2)) (fun x => dDel.Hs x.1 x.2) sum_dIdx
theorem sum_dDel_ok : SumTab Tryd.prog S sum_dDel := sum_mk (C := (mkCxI Tryd.prog S tab_r20Remove 0 true sum_dIdx)) (mkCxI_ok sigOk mixed tab_r20Remove_ok 0 true sum_dIdx_ok) dDel.sdec_ok (by kernel_rfl) 4 [1] (fun x hp => (dDel.nf_ok x.1 x.2 _).mpr (dDel.key x.1 x.2 (hp _ (List.mem_singleton.2 rfl)) _ rfl)) sum_dIdx_ok

end Go.Aw.W
