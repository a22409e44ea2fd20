/- Contracts of the seat (printed by ct.py). -/
import Derived.Test.YtcpcakglnckpeaaDoorXW11
set_option linter.unusedVariables false
set_option linter.unusedSimpArgs false
set_option maxRecDepth 20000
set_option maxHeartbeats 1000000
namespace Go.Aw.W
open Go Go.Aw Go.Proofs
attribute [local irreducible] evCode evFun evOps evDs evOne ctxK loopK loopB subC bodyC headS okH roundK

/-! wireless/accept.has[wireless/api.Address] -/
def aHas.res (r : Bool) : AV El := .v (.bool (r))
def aHas.news (r : Bool) : List (AObj El) := []
def aHas.go (l : List Address) (p1 : Address) : Nat → Int → Bool
  | 0, _ => false
  | n0 + 1, i => cond (decide (i < (↑(List.length l) : Int))) (cond (p1.Kind == (List.getD l (Int.toNat i) Address.zero).Kind && p1.Bits == (List.getD l (Int.toNat i) Address.zero).Bits) (true) (aHas.go l p1 n0 (IntKind.wrap IntKind.i64 (i + (1 : Int))))) (false)
def aHas.hd (l : List Address) (p1 : Address) (i : Int) : St El := { lo := 0, slots := [(9, .v (.int .i64 (i))), (8, .v (.int .i64 ((↑(List.length l) : Int)))), (7, .sl 25 (l : List (El 25)) false), (3, .ref 0 0)], n := 17, objs := [.cells [.v (.int .i64 (p1.Kind)), .v (.int .u64 (p1.Bits))]] }
def aHas.st (l : List Address) (p1 : Address) (i : Int) (J : St El → Prop) (K : AV El → List (AObj El) → Prop) : Prop := cond (decide (i < (↑(List.length l) : Int))) (Ob ((0 : Int) ≤ i ∧ i < (↑(List.length l) : Int)) ∧ (cond (p1.Kind == (List.getD l (Int.toNat i) Address.zero).Kind && p1.Bits == (List.getD l (Int.toNat i) Address.zero).Bits) (K (.v (.bool (true))) [.cells [.v (.int .i64 (p1.Kind)), .v (.int .u64 (p1.Bits))], .cells [.v (.int .i64 ((List.getD l (Int.toNat i) Address.zero).Kind)), .v (.int .u64 ((List.getD l (Int.toNat i) Address.zero).Bits))]]) (J (aHas.hd l p1 (IntKind.wrap IntKind.i64 (i + (1 : Int))))))) (K (.v (.bool (false))) [.cells [.v (.int .i64 (p1.Kind)), .v (.int .u64 (p1.Bits))]])
theorem aHas.st_ok (l : List Address) (p1 : Address) (i : Int) (J : St El → Prop) (K : AV El → List (AObj El) → Prop) : evCode (mkCxI Tryd.prog S tab_r9Find 0 false sum_fIdx) (evFun (mkCxI Tryd.prog S tab_r9Find 0 false sum_fIdx) 3) (loopB Tryd.prog 45 [true, false, true, false]) (aHas.hd l p1 i) (roundK (C := (mkCxI Tryd.prog S tab_r9Find 0 false sum_fIdx)) [9, 8, 7, 3] [] J (loopK (mkCxI Tryd.prog S tab_r9Find 0 false sum_fIdx) 3 45 [true, false, true, false] K)) = aHas.st l p1 i J K := by kernel_rfl
def aHas.rng (l : List Address) (p1 : Address) (n0 : Nat) (i : Int) : Prop := 0 ≤ i ∧ i ≤ l.length ∧ (l.length - i).toNat < n0 ∧ l.length ≤ 9223372036854775807
theorem aHas.lp (l : List Address) (p1 : Address) (v : Bool) (n0 : Nat) (i : Int) (hv : v = aHas.go l p1 n0 i) (h0 : aHas.rng l p1 n0 i) (st : St El) (q1 : okH [9, 8, 7, 3] [] st = true) (q2 : headS [9, 8, 7, 3] [] st = aHas.hd l p1 i) : evCode (mkCxI Tryd.prog S tab_r9Find 0 false sum_fIdx) (evFun (mkCxI Tryd.prog S tab_r9Find 0 false sum_fIdx) 3) (.loop (loopB Tryd.prog 45 [true, false, true, false])) st (loopK (mkCxI Tryd.prog S tab_r9Find 0 false sum_fIdx) 3 45 [true, false, true, false] (fun r' H' => Gives r' H' (aHas.res v) (aHas.news v))) := by
  refine loop_ev rfl (evFun_mono _ _) [9, 8, 7, 3] [] (X := Nat × Int) (fun x => aHas.hd l p1 x.2) (fun x => x.1) (fun x => aHas.rng l p1 x.1 x.2 ∧ v = aHas.go l p1 x.1 x.2) (n0, i) ⟨q1, q2⟩ ⟨h0, hv⟩ ?_
  clear h0 hv q1 q2
  rintro ⟨n0, i⟩ ⟨hr, hv⟩
  dsimp only at hr hv
  cases n0 with
  | zero => exact absurd hr (by unfold aHas.rng; omega)
  | succ n0 =>
  unfold aHas.rng at hr
  unfold aHas.go at hv
  refine (aHas.st_ok l p1 i _ _).mpr ?_
  unfold aHas.st
  revert hv; refine by_cond2 (fun hb hv => ?_) (fun hb hv => ?_)
  · refine ⟨⟨by (try clear hv); (try clear q1 q2); (try clear hk); (first | omega | ((try simp only [decide_eq_true_eq, decide_eq_false_iff_not, Bool.not_eq_true, Bool.not_eq_false, Bool.and_eq_true, Bool.or_eq_true, Bool.not_not, cond_and, cond_or, List.length_append, List.length_cons, List.length_nil] at *); (first | done | ((first | omega | (intros; (try simp only [Bool.not_not, cond_and, cond_or, Bool.and_eq_true, decide_eq_true_eq] at *); (exact ⟨by decide, by simp⟩)) | (intros; (try simp only [Bool.not_not, cond_and, cond_or, Bool.and_eq_true, decide_eq_true_eq] at *); (exact pDerive_len _ _ (by omega) (by omega))) | (intros; (try simp only [Bool.not_not, cond_and, cond_or, Bool.and_eq_true, decide_eq_true_eq] at *); (exact pDerive_len2 _ _ (by omega) (by omega))) | (intros; (try simp only [Bool.not_not, cond_and, cond_or, Bool.and_eq_true, decide_eq_true_eq] at *); (exact band_nn rfl _ _)) | (intros; (try simp only [Bool.not_not, cond_and, cond_or, Bool.and_eq_true, decide_eq_true_eq] at *); (exact (wu64s _).2.1)) | (intros; (try simp only [Bool.not_not, cond_and, cond_or, Bool.and_eq_true, decide_eq_true_eq] at *); (simp only [Bool.or_eq_false_iff, Bool.and_eq_false_iff, decide_eq_false_iff_not, decide_eq_true_eq, bne_iff_ne, beq_iff_eq, bne_eq_false_iff_eq, beq_eq_false_iff_ne, ne_eq, true_and] at *; omega)) | (intros; (try simp only [Bool.not_not, cond_and, cond_or, Bool.and_eq_true, decide_eq_true_eq] at *); (simp only [List.length_drop, List.length_take, List.length_append, List.length_cons, List.length_nil] at *; omega)) | (intros; omega) | (intros; simp only [sized_iff, Bool.not_not, cond_and, cond_or, Bool.and_eq_true, decide_eq_true_eq] at *; omega) | (intros; simp_all [sized_iff, Bool.not_not]; done))))))⟩, ?_⟩
    revert hv; refine by_cond2 (fun hb hv => ?_) (fun hb hv => ?_)
    · subst hv; exact And.intro (by kernel_rfl) (by kernel_rfl)
    · exact ⟨(n0, (IntKind.wrap IntKind.i64 (i + (1 : Int)))), (by kernel_rfl), Nat.lt_succ_self n0, (by dsimp only; unfold aHas.rng; (try clear hv); (try clear q1 q2); (try clear hk); (try simp only [decide_eq_true_eq, decide_eq_false_iff_not, Bool.not_eq_true, Bool.not_eq_false, Bool.and_eq_true, Bool.or_eq_true, Bool.not_not, cond_and, cond_or, List.length_append, List.length_cons, List.length_nil] at *); have := wi64s (i + (1 : Int)); omega), hv⟩
  · subst hv; exact And.intro (by kernel_rfl) (by kernel_rfl)
def aHas (l : List Address) (p1 : Address) : Bool := aHas.go l p1 (l.length + 1) ((0 : Int))
def aHas.dec (cs : List (AV El)) : Option ((List Address) × Address) := popS 25 cs fun a0 c0 => popA Address.dec c0 fun a1 c1 => popE c1 (a0, a1)
def aHas.enc (x : (List Address) × Address) : List (AV El) := [.sl 25 (x.1 : List (El 25)) false, Address.av x.2]
theorem aHas.dec_ok : ∀ cs x, aHas.dec cs = some x → Imp (S := S) cs (aHas.enc x) := by
  intro cs x h
  unfold aHas.dec at h
  obtain ⟨a0, c0, h0, k0⟩ := popS_some (S := S) (t := 25) h
  obtain ⟨a1, c1, h1, k1⟩ := popA_some (S := S) Address.dec_ok h0
  obtain ⟨rfl, rfl⟩ := popE_some (S := S) h1
  exact (k0 _ (k1 _ (.refl _)))
def aHas.nf (l : List Address) (p1 : Address) (K : AV El → List (AObj El) → Prop) : Prop := (List.length l ≤ (9223372036854775807 : Nat)) → (evCode (mkCxI Tryd.prog S tab_r9Find 0 false sum_fIdx) (evFun (mkCxI Tryd.prog S tab_r9Find 0 false sum_fIdx) 3) (.loop (loopB Tryd.prog 45 [true, false, true, false])) ({ lo := 0, slots := [(9, .v (.int .i64 ((0 : Int)))), (8, .v (.int .i64 ((↑(List.length l) : Int)))), (7, .sl 25 (l : List (El 25)) false), (4, .v (.bool (false))), (3, .ref 0 0), (0, .sl 25 (l : List (El 25)) false), (1, .agg [.v (.int .i64 (p1.Kind)), .v (.int .u64 (p1.Bits))])], n := 17, objs := [.cells [.v (.int .i64 (p1.Kind)), .v (.int .u64 (p1.Bits))]] }) (loopK (mkCxI Tryd.prog S tab_r9Find 0 false sum_fIdx) 3 45 [true, false, true, false] K))
theorem aHas.nf_ok (l : List Address) (p1 : Address) (K : AV El → List (AObj El) → Prop) : evFun (mkCxI Tryd.prog S tab_r9Find 0 false sum_fIdx) 4 45 [.sl 25 (l : List (El 25)) false, Address.av p1] [] K = aHas.nf l p1 K := by kernel_rfl
theorem aHas.key (l : List Address) (p1 : Address) (v : Bool) (hv : v = aHas l p1) : aHas.nf l p1 (fun r' H' => Gives r' H' (aHas.res v) (aHas.news v)) := by
  unfold aHas at hv
  unfold aHas.nf
  intro hlen
  exact aHas.lp l p1 v _ _ hv (by unfold aHas.rng; (try clear hv); (try clear q1 q2); (try clear hk); (first | omega | (simp only [List.length_nil]; omega) | (simp; omega))) _ (by kernel_rfl) (by kernel_rfl)
def aHas.ct : Ct El := ctOf aHas.dec (fun _ => []) (fun x => aHas.res (aHas x.1 x.2)) (fun x => aHas.news (aHas x.1 x.2))
theorem aHas.ok : CtOk (mkCx Tryd.prog S [] 0) 45 aHas.ct := ct_mk (C := (mkCxI Tryd.prog S tab_r9Find 0 false sum_fIdx)) (mkCxI_ok sigOk mixed tab_r9Find_ok 0 false sum_fIdx_ok) aHas.dec_ok (fun x => rfl) 4 (fun x _ => (aHas.nf_ok x.1 x.2 _).mpr (aHas.key x.1 x.2 _ rfl))
def tab_aHas : List (FuncId × Ct El) := (45, aHas.ct) :: tab_r9Find
theorem tab_aHas_ok : TabOk Tryd.prog S tab_aHas := ⟨aHas.ok, by kernel_rfl, tab_r9Find_ok⟩

/-! wireless/wirelessref20.Element -/
def r20Element.res (r : Bool) : AV El := .v (.bool (r))
def r20Element.news (r : Bool) : List (AObj El) := []
def r20Element.go (l : List Address) (a : Address) : Nat → Int → Bool
  | 0, _ => false
  | n0 + 1, i => cond (decide (i < (↑(List.length l) : Int))) (cond ((List.getD l (Int.toNat i) Address.zero).Kind == a.Kind && (List.getD l (Int.toNat i) Address.zero).Bits == a.Bits) (true) (r20Element.go l a n0 (IntKind.wrap IntKind.i64 (i + (1 : Int))))) (false)
def r20Element.hd (l : List Address) (a : Address) (i : Int) : St El := { lo := 0, slots := [(5, .v (.int .i64 (i))), (3, .ref 0 0), (0, .sl 25 (l : List (El 25)) false)], n := 18, objs := [.cells [.v (.int .i64 (a.Kind)), .v (.int .u64 (a.Bits))]] }
def r20Element.st (l : List Address) (a : Address) (i : Int) (J : St El → Prop) (K : AV El → List (AObj El) → Prop) : Prop := (List.length l ≤ (9223372036854775807 : Nat)) → (cond (decide (i < (↑(List.length l) : Int))) (Ob ((0 : Int) ≤ i ∧ i < (↑(List.length l) : Int)) ∧ (cond ((List.getD l (Int.toNat i) Address.zero).Kind == a.Kind && (List.getD l (Int.toNat i) Address.zero).Bits == a.Bits) (K (.v (.bool (true))) [.cells [.v (.int .i64 (a.Kind)), .v (.int .u64 (a.Bits))]]) (J (r20Element.hd l a (IntKind.wrap IntKind.i64 (i + (1 : Int))))))) (K (.v (.bool (false))) [.cells [.v (.int .i64 (a.Kind)), .v (.int .u64 (a.Bits))]]))
theorem r20Element.st_ok (l : List Address) (a : Address) (i : Int) (J : St El → Prop) (K : AV El → List (AObj El) → Prop) : evCode (mkCxI Tryd.prog S tab_aHas 0 false sum_fIdx) (evFun (mkCxI Tryd.prog S tab_aHas 0 false sum_fIdx) 3) (loopB Tryd.prog 28 [true, false, true, false]) (r20Element.hd l a i) (roundK (C := (mkCxI Tryd.prog S tab_aHas 0 false sum_fIdx)) [5, 3, 0] [] J (loopK (mkCxI Tryd.prog S tab_aHas 0 false sum_fIdx) 3 28 [true, false, true, false] K)) = r20Element.st l a i J K := by kernel_rfl
def r20Element.rng (l : List Address) (a : Address) (n0 : Nat) (i : Int) : Prop := 0 ≤ i ∧ i ≤ l.length ∧ (l.length - i).toNat < n0
theorem r20Element.lp (l : List Address) (a : Address) (v : Bool) (n0 : Nat) (i : Int) (hv : v = r20Element.go l a n0 i) (h0 : r20Element.rng l a n0 i) (st : St El) (q1 : okH [5, 3, 0] [] st = true) (q2 : headS [5, 3, 0] [] st = r20Element.hd l a i) : evCode (mkCxI Tryd.prog S tab_aHas 0 false sum_fIdx) (evFun (mkCxI Tryd.prog S tab_aHas 0 false sum_fIdx) 3) (.loop (loopB Tryd.prog 28 [true, false, true, false])) st (loopK (mkCxI Tryd.prog S tab_aHas 0 false sum_fIdx) 3 28 [true, false, true, false] (fun r' H' => Gives r' H' (r20Element.res v) (r20Element.news v))) := by
  refine loop_ev rfl (evFun_mono _ _) [5, 3, 0] [] (X := Nat × Int) (fun x => r20Element.hd l a x.2) (fun x => x.1) (fun x => r20Element.rng l a x.1 x.2 ∧ v = r20Element.go l a x.1 x.2) (n0, i) ⟨q1, q2⟩ ⟨h0, hv⟩ ?_
  clear h0 hv q1 q2
  rintro ⟨n0, i⟩ ⟨hr, hv⟩
  dsimp only at hr hv
  cases n0 with
  | zero => exact absurd hr (by unfold r20Element.rng; omega)
  | succ n0 =>
  unfold r20Element.rng at hr
  unfold r20Element.go at hv
  refine (r20Element.st_ok l a i _ _).mpr ?_
  unfold r20Element.st
  intro hlen
  revert hv; refine by_cond2 (fun hb hv => ?_) (fun hb hv => ?_)
  · refine ⟨⟨by (try clear hv); (try clear q1 q2); (try clear hk); (first | omega | ((try simp only [decide_eq_true_eq, decide_eq_false_iff_not, Bool.not_eq_true, Bool.not_eq_false, Bool.and_eq_true, Bool.or_eq_true, Bool.not_not, cond_and, cond_or, List.length_append, List.length_cons, List.length_nil] at *); (first | done | ((first | omega | (intros; (try simp only [Bool.not_not, cond_and, cond_or, Bool.and_eq_true, decide_eq_true_eq] at *); (exact ⟨by decide, by simp⟩)) | (intros; (try simp only [Bool.not_not, cond_and, cond_or, Bool.and_eq_true, decide_eq_true_eq] at *); (exact pDerive_len _ _ (by omega) (by omega))) | (intros; (try simp only [Bool.not_not, cond_and, cond_or, Bool.and_eq_true, decide_eq_true_eq] at *); (exact pDerive_len2 _ _ (by omega) (by omega))) | (intros; (try simp only [Bool.not_not, cond_and, cond_or, Bool.and_eq_true, decide_eq_true_eq] at *); (exact band_nn rfl _ _)) | (intros; (try simp only [Bool.not_not, cond_and, cond_or, Bool.and_eq_true, decide_eq_true_eq] at *); (exact (wu64s _).2.1)) | (intros; (try simp only [Bool.not_not, cond_and, cond_or, Bool.and_eq_true, decide_eq_true_eq] at *); (simp only [Bool.or_eq_false_iff, Bool.and_eq_false_iff, decide_eq_false_iff_not, decide_eq_true_eq, bne_iff_ne, beq_iff_eq, bne_eq_false_iff_eq, beq_eq_false_iff_ne, ne_eq, true_and] at *; omega)) | (intros; (try simp only [Bool.not_not, cond_and, cond_or, Bool.and_eq_true, decide_eq_true_eq] at *); (simp only [List.length_drop, List.length_take, List.length_append, List.length_cons, List.length_nil] at *; omega)) | (intros; omega) | (intros; simp only [sized_iff, Bool.not_not, cond_and, cond_or, Bool.and_eq_true, decide_eq_true_eq] at *; omega) | (intros; simp_all [sized_iff, Bool.not_not]; done))))))⟩, ?_⟩
    revert hv; refine by_cond2 (fun hb hv => ?_) (fun hb hv => ?_)
    · subst hv; exact And.intro (by kernel_rfl) (by kernel_rfl)
    · exact ⟨(n0, (IntKind.wrap IntKind.i64 (i + (1 : Int)))), (by kernel_rfl), Nat.lt_succ_self n0, (by dsimp only; unfold r20Element.rng; (try clear hv); (try clear q1 q2); (try clear hk); (try simp only [decide_eq_true_eq, decide_eq_false_iff_not, Bool.not_eq_true, Bool.not_eq_false, Bool.and_eq_true, Bool.or_eq_true, Bool.not_not, cond_and, cond_or, List.length_append, List.length_cons, List.length_nil] at *); have := wi64s (i + (1 : Int)); omega), hv⟩
  · subst hv; exact And.intro (by kernel_rfl) (by kernel_rfl)
def r20Element (l : List Address) (a : Address) : Bool := r20Element.go l a (l.length + 1) ((0 : Int))
def r20Element.dec (cs : List (AV El)) : Option ((List Address) × Address) := popS 25 cs fun a0 c0 => popA Address.dec c0 fun a1 c1 => popE c1 (a0, a1)
def r20Element.enc (x : (List Address) × Address) : List (AV El) := [.sl 25 (x.1 : List (El 25)) false, Address.av x.2]
theorem r20Element.dec_ok : ∀ cs x, r20Element.dec cs = some x → Imp (S := S) cs (r20Element.enc x) := by
  intro cs x h
  unfold r20Element.dec at h
  obtain ⟨a0, c0, h0, k0⟩ := popS_some (S := S) (t := 25) h
  obtain ⟨a1, c1, h1, k1⟩ := popA_some (S := S) Address.dec_ok h0
  obtain ⟨rfl, rfl⟩ := popE_some (S := S) h1
  exact (k0 _ (k1 _ (.refl _)))
def r20Element.nf (l : List Address) (a : Address) (K : AV El → List (AObj El) → Prop) : Prop := evCode (mkCxI Tryd.prog S tab_aHas 0 false sum_fIdx) (evFun (mkCxI Tryd.prog S tab_aHas 0 false sum_fIdx) 3) (.loop (loopB Tryd.prog 28 [true, false, true, false])) ({ lo := 0, slots := [(5, .v (.int .i64 ((0 : Int)))), (4, .v (.bool (false))), (3, .ref 0 0), (0, .sl 25 (l : List (El 25)) false), (1, .agg [.v (.int .i64 (a.Kind)), .v (.int .u64 (a.Bits))])], n := 18, objs := [.cells [.v (.int .i64 (a.Kind)), .v (.int .u64 (a.Bits))]] }) (loopK (mkCxI Tryd.prog S tab_aHas 0 false sum_fIdx) 3 28 [true, false, true, false] K)
theorem r20Element.nf_ok (l : List Address) (a : Address) (K : AV El → List (AObj El) → Prop) : evFun (mkCxI Tryd.prog S tab_aHas 0 false sum_fIdx) 4 28 [.sl 25 (l : List (El 25)) false, Address.av a] [] K = r20Element.nf l a K := by kernel_rfl
theorem r20Element.key (l : List Address) (a : Address) (v : Bool) (hv : v = r20Element l a) : r20Element.nf l a (fun r' H' => Gives r' H' (r20Element.res v) (r20Element.news v)) := by
  unfold r20Element at hv
  unfold r20Element.nf
  exact r20Element.lp l a v _ _ hv (by unfold r20Element.rng; (try clear hv); (try clear q1 q2); (try clear hk); (first | omega | (simp only [List.length_nil]; omega) | (simp; omega))) _ (by kernel_rfl) (by kernel_rfl)
def r20Element.ct : Ct El := ctOf r20Element.dec (fun _ => []) (fun x => r20Element.res (r20Element x.1 x.2)) (fun x => r20Element.news (r20Element x.1 x.2))
theorem r20Element.ok : CtOk (mkCx Tryd.prog S [] 0) 28 r20Element.ct := ct_mk (C := (mkCxI Tryd.prog S tab_aHas 0 false sum_fIdx)) (mkCxI_ok sigOk mixed tab_aHas_ok 0 false sum_fIdx_ok) r20Element.dec_ok (fun x => rfl) 4 (fun x _ => (r20Element.nf_ok x.1 x.2 _).mpr (r20Element.key x.1 x.2 _ rfl))
def tab_r20Element : List (FuncId × Ct El) := (28, r20Element.ct) :: tab_aHas
theorem tab_r20Element_ok : TabOk Tryd.prog S tab_r20Element := ⟨r20Element.ok, by kernel_rfl, tab_aHas_ok⟩

/-! wireless/wirelessref20.Same -/
def r20Same.res (r : Bool) : AV El := .v (.bool (r))
def r20Same.news (r : Bool) : List (AObj El) := []
def r20Same.go (a : List Address) (b : List Address) : Nat → Int → Bool
  | 0, _ => false
  | n0 + 1, i => cond (decide (i < (↑(List.length a) : Int))) (cond (!((List.getD a (Int.toNat i) Address.zero).Kind == (List.getD b (Int.toNat i) Address.zero).Kind &&
    (List.getD a (Int.toNat i) Address.zero).Bits == (List.getD b (Int.toNat i) Address.zero).Bits)) (false) (r20Same.go a b n0 (IntKind.wrap IntKind.i64 (i + (1 : Int))))) (true)
def r20Same.hd (a : List Address) (b : List Address) (i : Int) : St El := { lo := 0, slots := [(5, .v (.int .i64 (i))), (0, .sl 25 (a : List (El 25)) false), (1, .sl 25 (b : List (El 25)) false)], n := 26, objs := [] }
def r20Same.st (a : List Address) (b : List Address) (i : Int) (J : St El → Prop) (K : AV El → List (AObj El) → Prop) : Prop := (List.length a ≤ (9223372036854775807 : Nat)) → (cond (decide (i < (↑(List.length a) : Int))) (Ob ((0 : Int) ≤ i ∧ i < (↑(List.length a) : Int)) ∧ (Ob ((0 : Int) ≤ i ∧ i < (↑(List.length b) : Int)) ∧ (cond (!((List.getD a (Int.toNat i) Address.zero).Kind == (List.getD b (Int.toNat i) Address.zero).Kind &&
    (List.getD a (Int.toNat i) Address.zero).Bits == (List.getD b (Int.toNat i) Address.zero).Bits)) (K (.v (.bool (false))) []) (J (r20Same.hd a b (IntKind.wrap IntKind.i64 (i + (1 : Int)))))))) (K (.v (.bool (true))) []))
theorem r20Same.st_ok (a : List Address) (b : List Address) (i : Int) (J : St El → Prop) (K : AV El → List (AObj El) → Prop) : evCode (mkCxI Tryd.prog S tab_r20Element 0 false sum_fIdx) (evFun (mkCxI Tryd.prog S tab_r20Element 0 false sum_fIdx) 3) (loopB Tryd.prog 19 [true, true, false, true, false]) (r20Same.hd a b i) (roundK (C := (mkCxI Tryd.prog S tab_r20Element 0 false sum_fIdx)) [5, 0, 1] [] J (loopK (mkCxI Tryd.prog S tab_r20Element 0 false sum_fIdx) 3 19 [true, true, false, true, false] K)) = r20Same.st a b i J K := by kernel_rfl
def r20Same.rng (a : List Address) (b : List Address) (n0 : Nat) (i : Int) : Prop := 0 ≤ i ∧ i ≤ a.length ∧ (a.length - i).toNat < n0 ∧ a.length = b.length
theorem r20Same.lp (a : List Address) (b : List Address) (v : Bool) (n0 : Nat) (i : Int) (hv : v = r20Same.go a b n0 i) (h0 : r20Same.rng a b n0 i) (st : St El) (q1 : okH [5, 0, 1] [] st = true) (q2 : headS [5, 0, 1] [] st = r20Same.hd a b i) : evCode (mkCxI Tryd.prog S tab_r20Element 0 false sum_fIdx) (evFun (mkCxI Tryd.prog S tab_r20Element 0 false sum_fIdx) 3) (.loop (loopB Tryd.prog 19 [true, true, false, true, false])) st (loopK (mkCxI Tryd.prog S tab_r20Element 0 false sum_fIdx) 3 19 [true, true, false, true, false] (fun r' H' => Gives r' H' (r20Same.res v) (r20Same.news v))) := by
  refine loop_ev rfl (evFun_mono _ _) [5, 0, 1] [] (X := Nat × Int) (fun x => r20Same.hd a b x.2) (fun x => x.1) (fun x => r20Same.rng a b x.1 x.2 ∧ v = r20Same.go a b x.1 x.2) (n0, i) ⟨q1, q2⟩ ⟨h0, hv⟩ ?_
  clear h0 hv q1 q2
  rintro ⟨n0, i⟩ ⟨hr, hv⟩
  dsimp only at hr hv
  cases n0 with
  | zero => exact absurd hr (by unfold r20Same.rng; omega)
  | succ n0 =>
  unfold r20Same.rng at hr
  unfold r20Same.go at hv
  refine (r20Same.st_ok a b i _ _).mpr ?_
  unfold r20Same.st
  intro hlen
  revert hv; refine by_cond2 (fun hb hv => ?_) (fun hb hv => ?_)
  refine ⟨⟨?_⟩, ?_⟩; rotate_left
  refine ⟨⟨?_⟩, ?_⟩; rotate_left
  revert hv; refine by_cond2 (fun hb hv => ?_) (fun hb hv => ?_)
  subst hv; exact And.intro (by kernel_rfl) (by kernel_rfl)
  exact ⟨(n0, (IntKind.wrap IntKind.i64 (i + (1 : Int)))), (by kernel_rfl), Nat.lt_succ_self n0, (by dsimp only; unfold r20Same.rng; (try clear hv); (try clear q1 q2); (try clear hk); (try simp only [decide_eq_true_eq, decide_eq_false_iff_not, Bool.not_eq_true, Bool.not_eq_false, Bool.and_eq_true, Bool.or_eq_true, Bool.not_not, cond_and, cond_or, List.length_append, List.length_cons, List.length_nil] at *); have := wi64s (i + (1 : Int)); omega), hv⟩
  subst hv; exact And.intro (by kernel_rfl) (by kernel_rfl)
  all_goals ((try clear hv); (try clear q1 q2); (try clear hk); (first | omega | ((try simp only [decide_eq_true_eq, decide_eq_false_iff_not, Bool.not_eq_true, Bool.not_eq_false, Bool.and_eq_true, Bool.or_eq_true, Bool.not_not, cond_and, cond_or, List.length_append, List.length_cons, List.length_nil] at *); (first | done | ((first | omega | (intros; (try simp only [Bool.not_not, cond_and, cond_or, Bool.and_eq_true, decide_eq_true_eq] at *); (exact ⟨by decide, by simp⟩)) | (intros; (try simp only [Bool.not_not, cond_and, cond_or, Bool.and_eq_true, decide_eq_true_eq] at *); (exact pDerive_len _ _ (by omega) (by omega))) | (intros; (try simp only [Bool.not_not, cond_and, cond_or, Bool.and_eq_true, decide_eq_true_eq] at *); (exact pDerive_len2 _ _ (by omega) (by omega))) | (intros; (try simp only [Bool.not_not, cond_and, cond_or, Bool.and_eq_true, decide_eq_true_eq] at *); (exact band_nn rfl _ _)) | (intros; (try simp only [Bool.not_not, cond_and, cond_or, Bool.and_eq_true, decide_eq_true_eq] at *); (exact (wu64s _).2.1)) | (intros; (try simp only [Bool.not_not, cond_and, cond_or, Bool.and_eq_true, decide_eq_true_eq] at *); (simp only [Bool.or_eq_false_iff, Bool.and_eq_false_iff, decide_eq_false_iff_not, decide_eq_true_eq, bne_iff_ne, beq_iff_eq, bne_eq_false_iff_eq, beq_eq_false_iff_ne, ne_eq, true_and] at *; omega)) | (intros; (try simp only [Bool.not_not, cond_and, cond_or, Bool.and_eq_true, decide_eq_true_eq] at *); (simp only [List.length_drop, List.length_take, List.length_append, List.length_cons, List.length_nil] at *; omega)) | (intros; omega) | (intros; simp only [sized_iff, Bool.not_not, cond_and, cond_or, Bool.and_eq_true, decide_eq_true_eq] at *; omega) | (intros; simp_all [sized_iff, Bool.not_not]; done)))))))
def r20Same (a : List Address) (b : List Address) : Bool := cond ((↑(List.length a) : Int) != (↑(List.length b) : Int)) (false) (r20Same.go a b (a.length + 1) ((0 : Int)))
def r20Same.dec (cs : List (AV El)) : Option ((List Address) × (List Address)) := popS 25 cs fun a0 c0 => popS 25 c0 fun a1 c1 => popE c1 (a0, a1)
def r20Same.enc (x : (List Address) × (List Address)) : List (AV El) := [.sl 25 (x.1 : List (El 25)) false, .sl 25 (x.2 : List (El 25)) false]
theorem r20Same.dec_ok : ∀ cs x, r20Same.dec cs = some x → Imp (S := S) cs (r20Same.enc x) := by
  intro cs x h
  unfold r20Same.dec at h
  obtain ⟨a0, c0, h0, k0⟩ := popS_some (S := S) (t := 25) h
  obtain ⟨a1, c1, h1, k1⟩ := popS_some (S := S) (t := 25) h0
  obtain ⟨rfl, rfl⟩ := popE_some (S := S) h1
  exact (k0 _ (k1 _ (.refl _)))
def r20Same.nf (a : List Address) (b : List Address) (K : AV El → List (AObj El) → Prop) : Prop := (List.length a ≤ (9223372036854775807 : Nat)) → ((List.length b ≤ (9223372036854775807 : Nat)) → (cond ((↑(List.length a) : Int) != (↑(List.length b) : Int)) (K (.v (.bool (false))) []) (evCode (mkCxI Tryd.prog S tab_r20Element 0 false sum_fIdx) (evFun (mkCxI Tryd.prog S tab_r20Element 0 false sum_fIdx) 3) (.loop (loopB Tryd.prog 19 [true, true, false, true, false])) ({ lo := 0, slots := [(5, .v (.int .i64 ((0 : Int)))), (10, .v (.bool ((↑(List.length a) : Int) != (↑(List.length b) : Int)))), (9, .v (.int .i64 ((↑(List.length b) : Int)))), (8, .sl 25 (b : List (El 25)) false), (7, .v (.int .i64 ((↑(List.length a) : Int)))), (6, .sl 25 (a : List (El 25)) false), (4, .v (.bool (false))), (0, .sl 25 (a : List (El 25)) false), (1, .sl 25 (b : List (El 25)) false)], n := 26, objs := [] }) (loopK (mkCxI Tryd.prog S tab_r20Element 0 false sum_fIdx) 3 19 [true, true, false, true, false] K))))
theorem r20Same.nf_ok (a : List Address) (b : List Address) (K : AV El → List (AObj El) → Prop) : evFun (mkCxI Tryd.prog S tab_r20Element 0 false sum_fIdx) 4 19 [.sl 25 (a : List (El 25)) false, .sl 25 (b : List (El 25)) false] [] K = r20Same.nf a b K := by kernel_rfl
theorem r20Same.key (a : List Address) (b : List Address) (v : Bool) (hv : v = r20Same a b) : r20Same.nf a b (fun r' H' => Gives r' H' (r20Same.res v) (r20Same.news v)) := by
  unfold r20Same at hv
  unfold r20Same.nf
  intro hlen
  intro hlen
  revert hv; refine by_cond2 (fun hb hv => ?_) (fun hb hv => ?_)
  · subst hv; exact And.intro (by kernel_rfl) (by kernel_rfl)
  · exact r20Same.lp a b v _ _ hv (by unfold r20Same.rng; (try clear hv); (try clear q1 q2); (try clear hk); ((try simp only [bne_eq_false_iff_eq] at *); omega)) _ (by kernel_rfl) (by kernel_rfl)
def r20Same.ct : Ct El := ctOf r20Same.dec (fun _ => []) (fun x => r20Same.res (r20Same x.1 x.2)) (fun x => r20Same.news (r20Same x.1 x.2))
theorem r20Same.ok : CtOk (mkCx Tryd.prog S [] 0) 19 r20Same.ct := ct_mk (C := (mkCxI Tryd.prog S tab_r20Element 0 false sum_fIdx)) (mkCxI_ok sigOk mixed tab_r20Element_ok 0 false sum_fIdx_ok) r20Same.dec_ok (fun x => rfl) 4 (fun x _ => (r20Same.nf_ok x.1 x.2 _).mpr (r20Same.key x.1 x.2 _ rfl))
def tab_r20Same : List (FuncId × Ct El) := (19, r20Same.ct) :: tab_r20Element
theorem tab_r20Same_ok : TabOk Tryd.prog S tab_r20Same := ⟨r20Same.ok, by kernel_rfl, tab_r20Element_ok⟩

/-! wireless/wirelesslaw20.copied -/
def copied20.res (r : (List Address)) : AV El := .gs 0
def copied20.news (r : (List Address)) : List (AObj El) := [.row 25 (r : List (El 25))]
def copied20 (l : List Address) : (List Address) := [] ++ l
def copied20.dec (cs : List (AV El)) : Option ((List Address)) := popS 25 cs fun a0 c0 => popE c0 a0
def copied20.enc (x : (List Address)) : List (AV El) := [.sl 25 (x : List (El 25)) false]
theorem copied20.dec_ok : ∀ cs x, copied20.dec cs = some x → Imp (S := S) cs (copied20.enc x) := by
  intro cs x h
  unfold copied20.dec at h
  obtain ⟨a0, c0, h0, k0⟩ := popS_some (S := S) (t := 25) h
  obtain ⟨rfl, rfl⟩ := popE_some (S := S) h0
  exact (k0 _ (.refl _))
def copied20.nf (l : List Address) (K : AV El → List (AObj El) → Prop) : Prop := Ob (((0 : Nat) + List.length l) * (16 : Nat) ≤ (140737488355328 : Nat)) ∧ (K (.gs 1) [.gone, .row 25 ([] ++ l : List (El 25))])
theorem copied20.nf_ok (l : List Address) (K : AV El → List (AObj El) → Prop) : evFun (mkCxI Tryd.prog S tab_r20Same 0 false sum_fIdx) 4 17 [.sl 25 (l : List (El 25)) false] [] K = copied20.nf l K := by kernel_rfl
theorem copied20.key (l : List Address) (hp : l.length ≤ 4611686018427) (v : (List Address)) (hv : v = copied20 l) : copied20.nf l (fun r' H' => Gives r' H' (copied20.res v) (copied20.news v)) := by
  unfold copied20 at hv
  unfold copied20.nf
  refine ⟨⟨by (try clear hv); (try clear q1 q2); (try clear hk); (first | omega | ((try simp only [decide_eq_true_eq, decide_eq_false_iff_not, Bool.not_eq_true, Bool.not_eq_false, Bool.and_eq_true, Bool.or_eq_true, Bool.not_not, cond_and, cond_or, List.length_append, List.length_cons, List.length_nil] at *); (first | done | ((first | omega | (intros; (try simp only [Bool.not_not, cond_and, cond_or, Bool.and_eq_true, decide_eq_true_eq] at *); (exact ⟨by decide, by simp⟩)) | (intros; (try simp only [Bool.not_not, cond_and, cond_or, Bool.and_eq_true, decide_eq_true_eq] at *); (exact pDerive_len _ _ (by omega) (by omega))) | (intros; (try simp only [Bool.not_not, cond_and, cond_or, Bool.and_eq_true, decide_eq_true_eq] at *); (exact pDerive_len2 _ _ (by omega) (by omega))) | (intros; (try simp only [Bool.not_not, cond_and, cond_or, Bool.and_eq_true, decide_eq_true_eq] at *); (exact band_nn rfl _ _)) | (intros; (try simp only [Bool.not_not, cond_and, cond_or, Bool.and_eq_true, decide_eq_true_eq] at *); (exact (wu64s _).2.1)) | (intros; (try simp only [Bool.not_not, cond_and, cond_or, Bool.and_eq_true, decide_eq_true_eq] at *); (simp only [Bool.or_eq_false_iff, Bool.and_eq_false_iff, decide_eq_false_iff_not, decide_eq_true_eq, bne_iff_ne, beq_iff_eq, bne_eq_false_iff_eq, beq_eq_false_iff_ne, ne_eq, true_and] at *; omega)) | (intros; (try simp only [Bool.not_not, cond_and, cond_or, Bool.and_eq_true, decide_eq_true_eq] at *); (simp only [List.length_drop, List.length_take, List.length_append, List.length_cons, List.length_nil] at *; omega)) | (intros; omega) | (intros; simp only [sized_iff, Bool.not_not, cond_and, cond_or, Bool.and_eq_true, decide_eq_true_eq] at *; omega) | (intros; simp_all [sized_iff, Bool.not_not]; done))))))⟩, ?_⟩
  subst hv; exact And.intro (by kernel_rfl) (by kernel_rfl)
def copied20.ct : Ct El := ctOf copied20.dec (fun x => [x.length ≤ 4611686018427]) (fun x => copied20.res (copied20 x)) (fun x => copied20.news (copied20 x))
theorem copied20.ok : CtOk (mkCx Tryd.prog S [] 0) 17 copied20.ct := ct_mk (C := (mkCxI Tryd.prog S tab_r20Same 0 false sum_fIdx)) (mkCxI_ok sigOk mixed tab_r20Same_ok 0 false sum_fIdx_ok) copied20.dec_ok (fun x => rfl) 4 (fun x hp => (copied20.nf_ok x _).mpr (copied20.key x (hp _ (List.mem_singleton.2 rfl)) _ rfl))
def tab_copied20 : List (FuncId × Ct El) := (17, copied20.ct) :: tab_r20Same
theorem tab_copied20_ok : TabOk Tryd.prog S tab_copied20 := ⟨copied20.ok, by kernel_rfl, tab_r20Same_ok⟩

/-! wireless/wirelesslaw20.same -/
def same20.res (r : (List Identity)) : AV El := .gs 0
def same20.news (r : (List Identity)) : List (AObj El) := [.row 72 (r : List (El 72))]
def same20 (l : List Identity) : (List Identity) := [] ++ l
def same20.dec (cs : List (AV El)) : Option ((List Identity)) := popS 72 cs fun a0 c0 => popE c0 a0
def same20.enc (x : (List Identity)) : List (AV El) := [.sl 72 (x : List (El 72)) false]
theorem same20.dec_ok : ∀ cs x, same20.dec cs = some x → Imp (S := S) cs (same20.enc x) := by
  intro cs x h
  unfold same20.dec at h
  obtain ⟨a0, c0, h0, k0⟩ := popS_some (S := S) (t := 72) h
  obtain ⟨rfl, rfl⟩ := popE_some (S := S) h0
  exact (k0 _ (.refl _))
def same20.nf (l : List Identity) (K : AV El → List (AObj El) → Prop) : Prop := Ob (((0 : Nat) + List.length l) * (24 : Nat) ≤ (140737488355328 : Nat)) ∧ (K (.gs 1) [.gone, .row 72 ([] ++ l : List (El 72))])
theorem same20.nf_ok (l : List Identity) (K : AV El → List (AObj El) → Prop) : evFun (mkCxI Tryd.prog S tab_r20Same 0 false sum_fIdx) 4 23 [.sl 72 (l : List (El 72)) false] [] K = same20.nf l K := by kernel_rfl
theorem same20.key (l : List Identity) (hp : l.length ≤ 4611686018427) (v : (List Identity)) (hv : v = same20 l) : same20.nf l (fun r' H' => Gives r' H' (same20.res v) (same20.news v)) := by
  unfold same20 at hv
  unfold same20.nf
  refine ⟨⟨by (try clear hv); (try clear q1 q2); (try clear hk); (first | omega | ((try simp only [decide_eq_true_eq, decide_eq_false_iff_not, Bool.not_eq_true, Bool.not_eq_false, Bool.and_eq_true, Bool.or_eq_true, Bool.not_not, cond_and, cond_or, List.length_append, List.length_cons, List.length_nil] at *); (first | done | ((first | omega | (intros; (try simp only [Bool.not_not, cond_and, cond_or, Bool.and_eq_true, decide_eq_true_eq] at *); (exact ⟨by decide, by simp⟩)) | (intros; (try simp only [Bool.not_not, cond_and, cond_or, Bool.and_eq_true, decide_eq_true_eq] at *); (exact pDerive_len _ _ (by omega) (by omega))) | (intros; (try simp only [Bool.not_not, cond_and, cond_or, Bool.and_eq_true, decide_eq_true_eq] at *); (exact pDerive_len2 _ _ (by omega) (by omega))) | (intros; (try simp only [Bool.not_not, cond_and, cond_or, Bool.and_eq_true, decide_eq_true_eq] at *); (exact band_nn rfl _ _)) | (intros; (try simp only [Bool.not_not, cond_and, cond_or, Bool.and_eq_true, decide_eq_true_eq] at *); (exact (wu64s _).2.1)) | (intros; (try simp only [Bool.not_not, cond_and, cond_or, Bool.and_eq_true, decide_eq_true_eq] at *); (simp only [Bool.or_eq_false_iff, Bool.and_eq_false_iff, decide_eq_false_iff_not, decide_eq_true_eq, bne_iff_ne, beq_iff_eq, bne_eq_false_iff_eq, beq_eq_false_iff_ne, ne_eq, true_and] at *; omega)) | (intros; (try simp only [Bool.not_not, cond_and, cond_or, Bool.and_eq_true, decide_eq_true_eq] at *); (simp only [List.length_drop, List.length_take, List.length_append, List.length_cons, List.length_nil] at *; omega)) | (intros; omega) | (intros; simp only [sized_iff, Bool.not_not, cond_and, cond_or, Bool.and_eq_true, decide_eq_true_eq] at *; omega) | (intros; simp_all [sized_iff, Bool.not_not]; done))))))⟩, ?_⟩
  subst hv; exact And.intro (by kernel_rfl) (by kernel_rfl)
def same20.ct : Ct El := ctOf same20.dec (fun x => [x.length ≤ 4611686018427]) (fun x => same20.res (same20 x)) (fun x => same20.news (same20 x))
theorem same20.ok : CtOk (mkCx Tryd.prog S [] 0) 23 same20.ct := ct_mk (C := (mkCxI Tryd.prog S tab_r20Same 0 false sum_fIdx)) (mkCxI_ok sigOk mixed tab_r20Same_ok 0 false sum_fIdx_ok) same20.dec_ok (fun x => rfl) 4 (fun x hp => (same20.nf_ok x _).mpr (same20.key x (hp _ (List.mem_singleton.2 rfl)) _ rfl))
def tab_same20 : List (FuncId × Ct El) := (23, same20.ct) :: tab_copied20
theorem tab_same20_ok : TabOk Tryd.prog S tab_same20 := ⟨same20.ok, by kernel_rfl, tab_copied20_ok⟩

/-! aClone -/
def aClone.res (r : List Address) : AV El := .gs 0
def aClone.news (r : List Address) : List (AObj El) := [.row 25 (r : List (El 25))]
def aClone (s : List Address) : List Address := s
def aClone.dec (cs : List (AV El)) : Option ((List Address)) := popS 25 cs fun a0 c0 => popE c0 a0
def aClone.enc (x : (List Address)) : List (AV El) := [.sl 25 (x : List (El 25)) false]
theorem aClone.dec_ok : ∀ cs x, aClone.dec cs = some x → Imp (S := S) cs (aClone.enc x) := by
  intro cs x h
  unfold aClone.dec at h
  obtain ⟨a0, c0, h0, k0⟩ := popS_some (S := S) (t := 25) h
  obtain ⟨rfl, rfl⟩ := popE_some (S := S) h0
  exact (k0 _ (.refl _))
theorem aClone.nf_ok (s : List Address) (K : AV El → List (AObj El) → Prop) : evFun (mkCxI Tryd.prog S tab_same20 0 false sum_fIdx) 4 43 [.sl 25 (s : List (El 25)) false] [] K = (∀ z : Bool, (z = true → s = []) → cond (bif false then !z else z) (K (.v (.slice none 0 0)) []) (Ob (((0 : Nat) + List.length s) * (16 : Nat) ≤ (140737488355328 : Nat)) ∧ (K (.gs 1) [.gone, .row 25 ([] ++ s : List (El 25))]))) := by kernel_rfl
theorem aClone.key (s : List Address) (hp : s.length * 16 ≤ 140737488355328) : evFun (mkCxI Tryd.prog S tab_same20 0 false sum_fIdx) 4 43 [.sl 25 (s : List (El 25)) false] [] (fun r' H' => Gives r' H' (aClone.res s) (aClone.news s)) := by
  refine (aClone.nf_ok s _).mpr ?_
  intro z hz
  cases z
  · exact ⟨⟨by omega⟩, And.intro (by kernel_rfl) (by kernel_rfl)⟩
  · have := hz rfl
    subst this
    exact And.intro (by kernel_rfl) (by kernel_rfl)
def aClone.ct : Ct El := ctOf aClone.dec (fun x => [x.length * 16 ≤ 140737488355328]) (fun x => aClone.res (aClone x)) (fun x => aClone.news (aClone x))
theorem aClone.ok : CtOk (mkCx Tryd.prog S [] 0) 43 aClone.ct := ct_mk (C := (mkCxI Tryd.prog S tab_same20 0 false sum_fIdx)) (mkCxI_ok sigOk mixed tab_same20_ok 0 false sum_fIdx_ok) aClone.dec_ok (fun x => rfl) 4 (fun x hp => aClone.key x (hp _ (List.mem_singleton.2 rfl)))

def tab_aClone : List (FuncId × Ct El) := (43, aClone.ct) :: tab_same20
theorem tab_aClone_ok : TabOk Tryd.prog S tab_aClone := ⟨aClone.ok, by kernel_rfl, tab_same20_ok⟩

end Go.Aw.W
