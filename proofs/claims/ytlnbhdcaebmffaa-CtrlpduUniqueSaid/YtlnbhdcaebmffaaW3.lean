/- Contracts of the seat (printed by ct.py). -/
import Derived.Test.YtlnbhdcaebmffaaW2
set_option linter.unusedVariables false
set_option linter.unusedSimpArgs false
set_option maxRecDepth 20000
set_option maxHeartbeats 1000000
namespace Go.Aw.W
open Go Go.Aw Go.Proofs
attribute [local irreducible] evCode evFun evOps evDs evOne ctxK loopK loopB subC bodyC headS okH roundK

/-! wireless/wirelessref01.Power -/
def r1Power.res (r : Int) : AV El := .v (.int .u64 (r))
def r1Power.news (r : Int) : List (AObj El) := []
def r1Power.L (e v : Int) : Prop := r1Power.res e = r1Power.res v ∧ r1Power.news e = r1Power.news v
def r1Power.go (bits : Int) : Nat → Int → Int → Int
  | 0, _, _ => 0
  | n0 + 1, i, p => cond (decide (i < bits)) (r1Power.go bits n0 (IntKind.wrap IntKind.i64 (i + (1 : Int))) (IntKind.wrap IntKind.u64 (p * (2 : Int)))) (p)
def r1Power.hd (bits : Int) (i : Int) (p : Int) : St El := { lo := 0, slots := [(4, .v (.int .i64 (i))), (3, .v (.int .u64 (p))), (0, .v (.int .i64 (bits)))], n := 13, objs := [] }
def r1Power.st (bits : Int) (i : Int) (p : Int) (J : St El → Prop) (v : Int) : Prop := cond (decide (i < bits)) (J (r1Power.hd bits (IntKind.wrap IntKind.i64 (i + (1 : Int))) (IntKind.wrap IntKind.u64 (p * (2 : Int))))) (r1Power.L (p) v)
theorem r1Power.st_ok (bits : Int) (i : Int) (p : Int) (J : St El → Prop) (v : Int) : evCode (mkCx Try.prog S tab_r26rest 0) (evFun (mkCx Try.prog S tab_r26rest 0) 3) (loopB Try.prog 94 [true, true, false, true, false]) (r1Power.hd bits i p) (roundK (C := (mkCx Try.prog S tab_r26rest 0)) [4, 3, 0] [] J (loopK (mkCx Try.prog S tab_r26rest 0) 3 94 [true, true, false, true, false] (fun r' H' => Gives r' H' (r1Power.res v) (r1Power.news v)))) = r1Power.st bits i p J v := by kernel_rfl
def r1Power.rng (bits : Int) (n0 : Nat) (i : Int) (p : Int) : Prop := 0 ≤ i ∧ (bits - i).toNat < n0
theorem r1Power.lp (bits : Int) (hp : bits ≤ 9223372036854775807) (v : Int) (n0 : Nat) (i : Int) (p : Int) (hv : v = r1Power.go bits n0 i p) (h0 : r1Power.rng bits n0 i p) (st : St El) (q1 : okH [4, 3, 0] [] st = true) (q2 : headS [4, 3, 0] [] st = r1Power.hd bits i p) : evCode (mkCx Try.prog S tab_r26rest 0) (evFun (mkCx Try.prog S tab_r26rest 0) 3) (.loop (loopB Try.prog 94 [true, true, false, true, false])) st (loopK (mkCx Try.prog S tab_r26rest 0) 3 94 [true, true, false, true, false] (fun r' H' => Gives r' H' (r1Power.res v) (r1Power.news v))) := by
  refine loop_ev (by kernel_rfl) (evFun_mono _ _) [4, 3, 0] [] (X := Nat × Int × Int) (fun x => r1Power.hd bits x.2.1 x.2.2) (fun x => x.1) (fun x => r1Power.rng bits x.1 x.2.1 x.2.2 ∧ v = r1Power.go bits x.1 x.2.1 x.2.2) (n0, i, p) ⟨q1, q2⟩ ⟨h0, hv⟩ ?_
  clear h0 hv q1 q2
  rintro ⟨n0, i, p⟩ ⟨hr, hv⟩
  dsimp only at hr hv
  cases n0 with
  | zero => exact absurd hr (by unfold r1Power.rng; omega)
  | succ n0 =>
  unfold r1Power.rng at hr
  unfold r1Power.go at hv
  refine (r1Power.st_ok bits i p _ _).mpr ?_
  unfold r1Power.st
  revert hv; refine by_cond2 (fun hb hv => ?_) (fun hb hv => ?_)
  · exact ⟨(n0, (IntKind.wrap IntKind.i64 (i + (1 : Int))), (IntKind.wrap IntKind.u64 (p * (2 : Int)))), (by kernel_rfl), Nat.lt_succ_self n0, (by dsimp only; unfold r1Power.rng; (try clear hv); (try clear q1 q2); (try clear hk); (try simp only [decide_eq_true_eq, decide_eq_false_iff_not, Bool.not_eq_true, Bool.not_eq_false, Bool.and_eq_true, Bool.or_eq_true, Bool.not_not, cond_and, cond_or, List.length_append, List.length_cons, List.length_nil] at *); have := wi64s (i + (1 : Int)); have := wu64s (p * (2 : Int)); omega), hv⟩
  · subst hv; exact ⟨rfl, rfl⟩
def r1Power (bits : Int) : Int := r1Power.go bits (bits.toNat + 1) ((0 : Int)) ((1 : Int))
def r1Power.dec (cs : List (AV El)) : Option (Int) := popI .i64 cs fun a0 c0 => popE c0 a0
def r1Power.enc (x : Int) : List (AV El) := [.v (.int .i64 x)]
theorem r1Power.dec_ok : ∀ cs x, r1Power.dec cs = some x → Imp (S := S) cs (r1Power.enc x) := by
  intro cs x h
  unfold r1Power.dec at h
  obtain ⟨a0, c0, rfl, h0⟩ := popI_some (S := S) h
  obtain ⟨rfl, rfl⟩ := popE_some (S := S) h0
  exact (.cons (.refl _))
def r1Power.nf (bits : Int) (v : Int) : Prop := evCode (mkCx Try.prog S tab_r26rest 0) (evFun (mkCx Try.prog S tab_r26rest 0) 3) (.loop (loopB Try.prog 94 [true, true, false, true, false])) ({ lo := 0, slots := [(4, .v (.int .i64 (0))), (3, .v (.int .u64 (1))), (2, .v (.int .u64 (0))), (0, .v (.int .i64 (bits)))], n := 13, objs := [] }) (loopK (mkCx Try.prog S tab_r26rest 0) 3 94 [true, true, false, true, false] (fun r' H' => Gives r' H' (r1Power.res v) (r1Power.news v)))
theorem r1Power.nf_ok (bits : Int) (v : Int) : evFun (mkCx Try.prog S tab_r26rest 0) 4 94 [.v (.int .i64 bits)] [] (fun r' H' => Gives r' H' (r1Power.res v) (r1Power.news v)) = r1Power.nf bits v := by kernel_rfl
theorem r1Power.key (bits : Int) (hp : bits ≤ 9223372036854775807) (v : Int) (hv : v = r1Power bits) : r1Power.nf bits v := by
  unfold r1Power at hv
  unfold r1Power.nf
  exact r1Power.lp bits hp v _ _ _ hv (by unfold r1Power.rng; (try clear hv); (try clear q1 q2); (try clear hk); (first | omega | (simp only [List.length_nil]; omega) | (simp; omega))) _ (by kernel_rfl) (by kernel_rfl)
def r1Power.ct : Ct El := ctOf r1Power.dec (fun x => [x ≤ 9223372036854775807]) (fun x => r1Power.res (r1Power x)) (fun x => r1Power.news (r1Power x))
theorem r1Power.ok : CtOk (mkCx Try.prog S [] 0) 94 r1Power.ct := ct_mk (C := (mkCx Try.prog S tab_r26rest 0)) (mkCx_ok sigOk mixed tab_r26rest_ok 0) r1Power.dec_ok (fun x => rfl) 4 (fun x hp => (r1Power.nf_ok x _).mpr (r1Power.key x (hp _ (List.mem_singleton.2 rfl)) _ rfl))
def tab_r1Power : List (FuncId × Ct El) := (94, r1Power.ct) :: tab_r26rest
theorem tab_r1Power_ok : TabOk Try.prog S tab_r1Power := ⟨r1Power.ok, by kernel_rfl, tab_r26rest_ok⟩

/-! wireless/connect.within -/
def cwithin.res (r : Bool) : AV El := .v (.bool (r))
def cwithin.news (r : Bool) : List (AObj El) := []
def cwithin.L (e v : Bool) : Prop := cwithin.res e = cwithin.res v ∧ cwithin.news e = cwithin.news v
def cwithin.go (all : List ConnectSpan) : Nat → Int → Bool
  | 0, _ => false
  | n0 + 1, i => cond (decide (i < (↑(List.length all) : Int))) (cond (bif decide ((List.getD all (Int.toNat i) ConnectSpan.zero).n < (List.getD all (Int.toNat i) ConnectSpan.zero).low) then
  true
else decide ((List.getD all (Int.toNat i) ConnectSpan.zero).high < (List.getD all (Int.toNat i) ConnectSpan.zero).n)) (false) (cwithin.go all n0 (IntKind.wrap IntKind.i64 (i + (1 : Int))))) (true)
def cwithin.hd (all : List ConnectSpan) (i : Int) : St El := { lo := 0, slots := [(7, .v (.int .i64 (i))), (6, .v (.int .i64 ((↑(List.length all) : Int)))), (5, .sl 144 (all : List (El 144)) false)], n := 24, objs := [] }
def cwithin.st (all : List ConnectSpan) (i : Int) (J : St El → Prop) (v : Bool) : Prop := cond (decide (i < (↑(List.length all) : Int))) (Ob (0 ≤ i ∧ i < (↑(List.length all) : Int)) ∧ (Ob (o3 (!decide ((List.getD all (Int.toNat i) ConnectSpan.zero).n < (List.getD all (Int.toNat i) ConnectSpan.zero).low))) ∧ (Ob (o3 (!decide ((List.getD all (Int.toNat i) ConnectSpan.zero).n < (List.getD all (Int.toNat i) ConnectSpan.zero).low))) ∧ (Ob (o3 (!decide ((List.getD all (Int.toNat i) ConnectSpan.zero).n < (List.getD all (Int.toNat i) ConnectSpan.zero).low))) ∧ (Ob (o3 (!decide ((List.getD all (Int.toNat i) ConnectSpan.zero).n < (List.getD all (Int.toNat i) ConnectSpan.zero).low))) ∧ (Ob (on (decide ((List.getD all (Int.toNat i) ConnectSpan.zero).n < (List.getD all (Int.toNat i) ConnectSpan.zero).low))) ∧ (cond (bif decide ((List.getD all (Int.toNat i) ConnectSpan.zero).n < (List.getD all (Int.toNat i) ConnectSpan.zero).low) then true else decide ((List.getD all (Int.toNat i) ConnectSpan.zero).high < (List.getD all (Int.toNat i) ConnectSpan.zero).n)) (cwithin.L (false) v) (J (cwithin.hd all (IntKind.wrap IntKind.i64 (i + 1))))))))))) (cwithin.L (true) v)
theorem cwithin.st_ok (all : List ConnectSpan) (i : Int) (J : St El → Prop) (v : Bool) : evCode (mkCx Try.prog S tab_r1Power 0) (evFun (mkCx Try.prog S tab_r1Power 0) 3) (loopB Try.prog 130 [true, false, true, false]) (cwithin.hd all i) (roundK (C := (mkCx Try.prog S tab_r1Power 0)) [7, 6, 5] [] J (loopK (mkCx Try.prog S tab_r1Power 0) 3 130 [true, false, true, false] (fun r' H' => Gives r' H' (cwithin.res v) (cwithin.news v)))) = cwithin.st all i J v := by kernel_rfl
def cwithin.rng (all : List ConnectSpan) (n0 : Nat) (i : Int) : Prop := 0 ≤ i ∧ i ≤ all.length ∧ (all.length - i).toNat < n0 ∧ all.length ≤ 9223372036854775807
theorem cwithin.lp (all : List ConnectSpan) (v : Bool) (n0 : Nat) (i : Int) (hv : v = cwithin.go all n0 i) (h0 : cwithin.rng all n0 i) (st : St El) (q1 : okH [7, 6, 5] [] st = true) (q2 : headS [7, 6, 5] [] st = cwithin.hd all i) : evCode (mkCx Try.prog S tab_r1Power 0) (evFun (mkCx Try.prog S tab_r1Power 0) 3) (.loop (loopB Try.prog 130 [true, false, true, false])) st (loopK (mkCx Try.prog S tab_r1Power 0) 3 130 [true, false, true, false] (fun r' H' => Gives r' H' (cwithin.res v) (cwithin.news v))) := by
  refine loop_ev (by kernel_rfl) (evFun_mono _ _) [7, 6, 5] [] (X := Nat × Int) (fun x => cwithin.hd all x.2) (fun x => x.1) (fun x => cwithin.rng all x.1 x.2 ∧ v = cwithin.go all x.1 x.2) (n0, i) ⟨q1, q2⟩ ⟨h0, hv⟩ ?_
  clear h0 hv q1 q2
  rintro ⟨n0, i⟩ ⟨hr, hv⟩
  dsimp only at hr hv
  cases n0 with
  | zero => exact absurd hr (by unfold cwithin.rng; omega)
  | succ n0 =>
  unfold cwithin.rng at hr
  unfold cwithin.go at hv
  refine (cwithin.st_ok all i _ _).mpr ?_
  unfold cwithin.st
  revert hv; refine by_cond2 (fun hb hv => ?_) (fun hb hv => ?_)
  · refine ⟨⟨by (try clear hv); (try clear q1 q2); (try clear hk); (first | omega | ((try simp only [decide_eq_true_eq, decide_eq_false_iff_not, Bool.not_eq_true, Bool.not_eq_false, Bool.and_eq_true, Bool.or_eq_true, Bool.not_not, cond_and, cond_or, List.length_append, List.length_cons, List.length_nil] at *); (first | done | ((first | omega | (intros; (try simp only [Bool.not_not, cond_and, cond_or, Bool.and_eq_true, decide_eq_true_eq] at *); (exact band_nn rfl _ _)) | (intros; (try simp only [Bool.not_not, cond_and, cond_or, Bool.and_eq_true, decide_eq_true_eq] at *); (exact (wu64s _).2.1)) | (intros; (try simp only [Bool.not_not, cond_and, cond_or, Bool.and_eq_true, decide_eq_true_eq] at *); (simp only [Bool.or_eq_false_iff, Bool.and_eq_false_iff, decide_eq_false_iff_not, decide_eq_true_eq, bne_iff_ne, beq_iff_eq, bne_eq_false_iff_eq, beq_eq_false_iff_ne, ne_eq, true_and] at *; omega)) | (intros; (try simp only [Bool.not_not, cond_and, cond_or, Bool.and_eq_true, decide_eq_true_eq] at *); (simp only [List.length_drop, List.length_take, List.length_append, List.length_cons, List.length_nil] at *; omega)) | (intros; omega) | (intros; simp only [sized_iff, Bool.not_not, cond_and, cond_or, Bool.and_eq_true, decide_eq_true_eq] at *; omega) | (intros; simp_all [sized_iff, Bool.not_not]; done))))))⟩, ?_⟩
    refine ⟨⟨o3_ok _⟩, ?_⟩
    refine ⟨⟨o3_ok _⟩, ?_⟩
    refine ⟨⟨o3_ok _⟩, ?_⟩
    refine ⟨⟨o3_ok _⟩, ?_⟩
    refine ⟨⟨on_ok _⟩, ?_⟩
    revert hv; refine by_cond2 (fun hb hv => ?_) (fun hb hv => ?_)
    · subst hv; exact ⟨rfl, rfl⟩
    · exact ⟨(n0, (IntKind.wrap IntKind.i64 (i + (1 : Int)))), (by kernel_rfl), Nat.lt_succ_self n0, (by dsimp only; unfold cwithin.rng; (try clear hv); (try clear q1 q2); (try clear hk); (try simp only [decide_eq_true_eq, decide_eq_false_iff_not, Bool.not_eq_true, Bool.not_eq_false, Bool.and_eq_true, Bool.or_eq_true, Bool.not_not, cond_and, cond_or, List.length_append, List.length_cons, List.length_nil] at *); have := wi64s (i + (1 : Int)); omega), hv⟩
  · subst hv; exact ⟨rfl, rfl⟩
def cwithin (all : List ConnectSpan) : Bool := cwithin.go all (all.length + 1) ((0 : Int))
def cwithin.dec (cs : List (AV El)) : Option ((List ConnectSpan)) := popS 144 cs fun a0 c0 => popE c0 a0
def cwithin.enc (x : (List ConnectSpan)) : List (AV El) := [.sl 144 (x : List (El 144)) false]
theorem cwithin.dec_ok : ∀ cs x, cwithin.dec cs = some x → Imp (S := S) cs (cwithin.enc x) := by
  intro cs x h
  unfold cwithin.dec at h
  obtain ⟨a0, c0, h0, k0⟩ := popS_some (S := S) (t := 144) h
  obtain ⟨rfl, rfl⟩ := popE_some (S := S) h0
  exact (k0 _ (.refl _))
def cwithin.nf (all : List ConnectSpan) (v : Bool) : Prop := (List.length all ≤ (9223372036854775807 : Nat)) → (evCode (mkCx Try.prog S tab_r1Power 0) (evFun (mkCx Try.prog S tab_r1Power 0) 3) (.loop (loopB Try.prog 130 [true, false, true, false])) ({ lo := 0, slots := [(7, .v (.int .i64 (0))), (6, .v (.int .i64 ((↑(List.length all) : Int)))), (5, .sl 144 (all : List (El 144)) false), (2, .v (.bool (false))), (0, .sl 144 (all : List (El 144)) false)], n := 24, objs := [] }) (loopK (mkCx Try.prog S tab_r1Power 0) 3 130 [true, false, true, false] (fun r' H' => Gives r' H' (cwithin.res v) (cwithin.news v))))
theorem cwithin.nf_ok (all : List ConnectSpan) (v : Bool) : evFun (mkCx Try.prog S tab_r1Power 0) 4 130 [.sl 144 (all : List (El 144)) false] [] (fun r' H' => Gives r' H' (cwithin.res v) (cwithin.news v)) = cwithin.nf all v := by kernel_rfl
theorem cwithin.key (all : List ConnectSpan) (v : Bool) (hv : v = cwithin all) : cwithin.nf all v := by
  unfold cwithin at hv
  unfold cwithin.nf
  intro hlen
  exact cwithin.lp all v _ _ hv (by unfold cwithin.rng; (try clear hv); (try clear q1 q2); (try clear hk); (first | omega | (simp only [List.length_nil]; omega) | (simp; omega))) _ (by kernel_rfl) (by kernel_rfl)
def cwithin.ct : Ct El := ctOf cwithin.dec (fun _ => []) (fun x => cwithin.res (cwithin x)) (fun x => cwithin.news (cwithin x))
theorem cwithin.ok : CtOk (mkCx Try.prog S [] 0) 130 cwithin.ct := ct_mk (C := (mkCx Try.prog S tab_r1Power 0)) (mkCx_ok sigOk mixed tab_r1Power_ok 0) cwithin.dec_ok (fun x => rfl) 4 (fun x _ => (cwithin.nf_ok x _).mpr (cwithin.key x _ rfl))
def tab_cwithin : List (FuncId × Ct El) := (130, cwithin.ct) :: tab_r1Power
theorem tab_cwithin_ok : TabOk Try.prog S tab_cwithin := ⟨cwithin.ok, by kernel_rfl, tab_r1Power_ok⟩

/-! wireless/wirelessref23.Put -/
def r23Put.res (r : (List Int)) : AV El := .gs 0
def r23Put.news (r : (List Int)) : List (AObj El) := [.row 5 (r : List (El 5))]
def r23Put.L (e v : (List Int)) : Prop := r23Put.res e = r23Put.res v ∧ r23Put.news e = r23Put.news v
def r23Put.go (p0 : Int) (size : Int) : Nat → Int → Int → (List Int) → (List Int)
  | 0, _, _, _ => []
  | n0 + 1, i, q, out => cond (decide (i < size)) (r23Put.go p0 size n0 (IntKind.wrap IntKind.i64 (i + (1 : Int))) (IntKind.wrap IntKind.u64 (Int.tdiv q (256 : Int))) (out ++ [IntKind.wrap IntKind.u8 (Int.tmod q (256 : Int))])) (out)
def r23Put.hd (p0 : Int) (size : Int) (i : Int) (q : Int) (out : List Int) : St El := { lo := 0, slots := [(6, .v (.int .i64 (i))), (5, .gs 0), (0, .v (.int .u64 (q))), (1, .v (.int .i64 (size)))], n := 21, objs := [.row 5 (out : List (El 5))] }
def r23Put.st (p0 : Int) (size : Int) (i : Int) (q : Int) (out : List Int) (J : St El → Prop) (v : (List Int)) : Prop := cond (decide (i < size)) (Ob ((256 : Int) ≠ (0 : Int)) ∧ (Ob ((List.length out + List.length [IntKind.wrap IntKind.u8 (Int.tmod q 256)]) * (1 : Nat) ≤ (140737488355328 : Nat)) ∧ (Ob ((256 : Int) ≠ (0 : Int)) ∧ (J (r23Put.hd p0 size (IntKind.wrap IntKind.i64 (i + 1)) (IntKind.wrap IntKind.u64 (Int.tdiv q 256)) (out ++ [IntKind.wrap IntKind.u8 (Int.tmod q 256)])))))) (r23Put.L (out) v)
theorem r23Put.st_ok (p0 : Int) (size : Int) (i : Int) (q : Int) (out : List Int) (J : St El → Prop) (v : (List Int)) : evCode (mkCx Try.prog S tab_cwithin 0) (evFun (mkCx Try.prog S tab_cwithin 0) 3) (loopB Try.prog 42 [true, true, false, true, false]) (r23Put.hd p0 size i q out) (roundK (C := (mkCx Try.prog S tab_cwithin 0)) [6, 5, 0, 1] [.slot 5 5] J (loopK (mkCx Try.prog S tab_cwithin 0) 3 42 [true, true, false, true, false] (fun r' H' => Gives r' H' (r23Put.res v) (r23Put.news v)))) = r23Put.st p0 size i q out J v := by kernel_rfl
def r23Put.rng (p0 : Int) (size : Int) (n0 : Nat) (i : Int) (q : Int) (out : List Int) : Prop := 0 ≤ i ∧ i ≤ 8 ∧ (size - i).toNat < n0 ∧ size ≤ 8 ∧ out.length = i.toNat
theorem r23Put.lp (p0 : Int) (size : Int) (hp : size ≤ 8) (v : (List Int)) (n0 : Nat) (i : Int) (q : Int) (out : List Int) (hv : v = r23Put.go p0 size n0 i q out) (h0 : r23Put.rng p0 size n0 i q out) (st : St El) (q1 : okH [6, 5, 0, 1] [.slot 5 5] st = true) (q2 : headS [6, 5, 0, 1] [.slot 5 5] st = r23Put.hd p0 size i q out) : evCode (mkCx Try.prog S tab_cwithin 0) (evFun (mkCx Try.prog S tab_cwithin 0) 3) (.loop (loopB Try.prog 42 [true, true, false, true, false])) st (loopK (mkCx Try.prog S tab_cwithin 0) 3 42 [true, true, false, true, false] (fun r' H' => Gives r' H' (r23Put.res v) (r23Put.news v))) := by
  refine loop_ev (by kernel_rfl) (evFun_mono _ _) [6, 5, 0, 1] [.slot 5 5] (X := Nat × Int × Int × (List Int)) (fun x => r23Put.hd p0 size x.2.1 x.2.2.1 x.2.2.2) (fun x => x.1) (fun x => r23Put.rng p0 size x.1 x.2.1 x.2.2.1 x.2.2.2 ∧ v = r23Put.go p0 size x.1 x.2.1 x.2.2.1 x.2.2.2) (n0, i, q, out) ⟨q1, q2⟩ ⟨h0, hv⟩ ?_
  clear h0 hv q1 q2
  rintro ⟨n0, i, q, out⟩ ⟨hr, hv⟩
  dsimp only at hr hv
  cases n0 with
  | zero => exact absurd hr (by unfold r23Put.rng; omega)
  | succ n0 =>
  unfold r23Put.rng at hr
  unfold r23Put.go at hv
  refine (r23Put.st_ok p0 size i q out _ _).mpr ?_
  unfold r23Put.st
  revert hv; refine by_cond2 (fun hb hv => ?_) (fun hb hv => ?_)
  refine ⟨⟨?_⟩, ?_⟩; rotate_left
  refine ⟨⟨by (try clear hv); (try clear q1 q2); (try clear hk); (first | omega | ((try simp only [decide_eq_true_eq, decide_eq_false_iff_not, Bool.not_eq_true, Bool.not_eq_false, Bool.and_eq_true, Bool.or_eq_true, Bool.not_not, cond_and, cond_or, List.length_append, List.length_cons, List.length_nil] at *); (first | done | (have := wu8s (Int.tmod q (256 : Int)); (first | omega | (intros; (try simp only [Bool.not_not, cond_and, cond_or, Bool.and_eq_true, decide_eq_true_eq] at *); (exact band_nn rfl _ _)) | (intros; (try simp only [Bool.not_not, cond_and, cond_or, Bool.and_eq_true, decide_eq_true_eq] at *); (exact (wu64s _).2.1)) | (intros; (try simp only [Bool.not_not, cond_and, cond_or, Bool.and_eq_true, decide_eq_true_eq] at *); (simp only [Bool.or_eq_false_iff, Bool.and_eq_false_iff, decide_eq_false_iff_not, decide_eq_true_eq, bne_iff_ne, beq_iff_eq, bne_eq_false_iff_eq, beq_eq_false_iff_ne, ne_eq, true_and] at *; omega)) | (intros; (try simp only [Bool.not_not, cond_and, cond_or, Bool.and_eq_true, decide_eq_true_eq] at *); (simp only [List.length_drop, List.length_take, List.length_append, List.length_cons, List.length_nil] at *; omega)) | (intros; omega) | (intros; simp only [sized_iff, Bool.not_not, cond_and, cond_or, Bool.and_eq_true, decide_eq_true_eq] at *; omega) | (intros; simp_all [sized_iff, Bool.not_not]; done))))))⟩, ?_⟩
  refine ⟨⟨?_⟩, ?_⟩; rotate_left
  exact ⟨(n0, (IntKind.wrap IntKind.i64 (i + (1 : Int))), (IntKind.wrap IntKind.u64 (Int.tdiv q (256 : Int))), (out ++ [IntKind.wrap IntKind.u8 (Int.tmod q (256 : Int))])), (by kernel_rfl), Nat.lt_succ_self n0, (by dsimp only; unfold r23Put.rng; (try clear hv); (try clear q1 q2); (try clear hk); (try simp only [decide_eq_true_eq, decide_eq_false_iff_not, Bool.not_eq_true, Bool.not_eq_false, Bool.and_eq_true, Bool.or_eq_true, Bool.not_not, cond_and, cond_or, List.length_append, List.length_cons, List.length_nil] at *); have := wi64s (i + (1 : Int)); have := wu64s (Int.tdiv q (256 : Int)); have := wu8s (Int.tmod q (256 : Int)); omega), hv⟩
  subst hv; exact ⟨rfl, rfl⟩
  all_goals ((try clear hv); (try clear q1 q2); (try clear hk); (first | omega | ((try simp only [decide_eq_true_eq, decide_eq_false_iff_not, Bool.not_eq_true, Bool.not_eq_false, Bool.and_eq_true, Bool.or_eq_true, Bool.not_not, cond_and, cond_or, List.length_append, List.length_cons, List.length_nil] at *); (first | done | ((first | omega | (intros; (try simp only [Bool.not_not, cond_and, cond_or, Bool.and_eq_true, decide_eq_true_eq] at *); (exact band_nn rfl _ _)) | (intros; (try simp only [Bool.not_not, cond_and, cond_or, Bool.and_eq_true, decide_eq_true_eq] at *); (exact (wu64s _).2.1)) | (intros; (try simp only [Bool.not_not, cond_and, cond_or, Bool.and_eq_true, decide_eq_true_eq] at *); (simp only [Bool.or_eq_false_iff, Bool.and_eq_false_iff, decide_eq_false_iff_not, decide_eq_true_eq, bne_iff_ne, beq_iff_eq, bne_eq_false_iff_eq, beq_eq_false_iff_ne, ne_eq, true_and] at *; omega)) | (intros; (try simp only [Bool.not_not, cond_and, cond_or, Bool.and_eq_true, decide_eq_true_eq] at *); (simp only [List.length_drop, List.length_take, List.length_append, List.length_cons, List.length_nil] at *; omega)) | (intros; omega) | (intros; simp only [sized_iff, Bool.not_not, cond_and, cond_or, Bool.and_eq_true, decide_eq_true_eq] at *; omega) | (intros; simp_all [sized_iff, Bool.not_not]; done)))))))
def r23Put (p0 : Int) (size : Int) : (List Int) := r23Put.go p0 size (size.toNat + 1) ((0 : Int)) (p0) ([])
def r23Put.dec (cs : List (AV El)) : Option (Int × Int) := popI .u64 cs fun a0 c0 => popI .i64 c0 fun a1 c1 => popE c1 (a0, a1)
def r23Put.enc (x : Int × Int) : List (AV El) := [.v (.int .u64 x.1), .v (.int .i64 x.2)]
theorem r23Put.dec_ok : ∀ cs x, r23Put.dec cs = some x → Imp (S := S) cs (r23Put.enc x) := by
  intro cs x h
  unfold r23Put.dec at h
  obtain ⟨a0, c0, rfl, h0⟩ := popI_some (S := S) h
  obtain ⟨a1, c1, rfl, h1⟩ := popI_some (S := S) h0
  obtain ⟨rfl, rfl⟩ := popE_some (S := S) h1
  exact (.cons (.cons (.refl _)))
def r23Put.nf (p0 : Int) (size : Int) (v : (List Int)) : Prop := evCode (mkCx Try.prog S tab_cwithin 0) (evFun (mkCx Try.prog S tab_cwithin 0) 3) (.loop (loopB Try.prog 42 [true, true, false, true, false])) ({ lo := 0, slots := [(6, .v (.int .i64 (0))), (5, .v (.slice none 0 0)), (4, .v (.slice none 0 0)), (0, .v (.int .u64 (p0))), (1, .v (.int .i64 (size)))], n := 21, objs := [] }) (loopK (mkCx Try.prog S tab_cwithin 0) 3 42 [true, true, false, true, false] (fun r' H' => Gives r' H' (r23Put.res v) (r23Put.news v)))
theorem r23Put.nf_ok (p0 : Int) (size : Int) (v : (List Int)) : evFun (mkCx Try.prog S tab_cwithin 0) 4 42 [.v (.int .u64 p0), .v (.int .i64 size)] [] (fun r' H' => Gives r' H' (r23Put.res v) (r23Put.news v)) = r23Put.nf p0 size v := by kernel_rfl
theorem r23Put.key (p0 : Int) (size : Int) (hp : size ≤ 8) (v : (List Int)) (hv : v = r23Put p0 size) : r23Put.nf p0 size v := by
  unfold r23Put at hv
  unfold r23Put.nf
  exact r23Put.lp p0 size hp v _ _ _ _ hv (by unfold r23Put.rng; (try clear hv); (try clear q1 q2); (try clear hk); (first | omega | (simp only [List.length_nil]; omega) | (simp; omega))) _ (by kernel_rfl) (by kernel_rfl)
def r23Put.ct : Ct El := ctOf r23Put.dec (fun x => [x.2 ≤ 8]) (fun x => r23Put.res (r23Put x.1 x.2)) (fun x => r23Put.news (r23Put x.1 x.2))
theorem r23Put.ok : CtOk (mkCx Try.prog S [] 0) 42 r23Put.ct := ct_mk (C := (mkCx Try.prog S tab_cwithin 0)) (mkCx_ok sigOk mixed tab_cwithin_ok 0) r23Put.dec_ok (fun x => rfl) 4 (fun x hp => (r23Put.nf_ok x.1 x.2 _).mpr (r23Put.key x.1 x.2 (hp _ (List.mem_singleton.2 rfl)) _ rfl))
def tab_r23Put : List (FuncId × Ct El) := (42, r23Put.ct) :: tab_cwithin
theorem tab_r23Put_ok : TabOk Try.prog S tab_r23Put := ⟨r23Put.ok, by kernel_rfl, tab_cwithin_ok⟩

/-! wireless/wirelessref23.Num -/
def r23Num.res (r : Int) : AV El := .v (.int .u64 (r))
def r23Num.news (r : Int) : List (AObj El) := []
def r23Num.L (e v : Int) : Prop := r23Num.res e = r23Num.res v ∧ r23Num.news e = r23Num.news v
def r23Num.go (b : List Int) (p1 : Int) (size : Int) : Nat → Int → Int → Int
  | 0, _, _ => 0
  | n0 + 1, i, y => cond (decide ((0 : Int) ≤ i)) (r23Num.go b p1 size n0 (IntKind.wrap IntKind.i64 (i - (1 : Int))) (IntKind.wrap IntKind.u64
  (IntKind.wrap IntKind.u64 (y * (256 : Int)) +
    IntKind.wrap IntKind.u64 (List.getD b (Int.toNat (IntKind.wrap IntKind.i64 (p1 + i))) (0 : Int))))) (y)
def r23Num.hd (b : List Int) (p1 : Int) (size : Int) (i : Int) (y : Int) : St El := { lo := 0, slots := [(8, .v (.int .i64 (i))), (7, .v (.int .u64 (y))), (0, .sl 5 (b : List (El 5)) false), (1, .v (.int .i64 (p1)))], n := 26, objs := [] }
def r23Num.st (b : List Int) (p1 : Int) (size : Int) (i : Int) (y : Int) (J : St El → Prop) (v : Int) : Prop := cond (decide (0 ≤ i)) (Ob (0 ≤ IntKind.wrap IntKind.i64 (p1 + i) ∧ IntKind.wrap IntKind.i64 (p1 + i) < (↑(List.length b) : Int)) ∧ (J (r23Num.hd b p1 size (IntKind.wrap IntKind.i64 (i - 1)) (IntKind.wrap IntKind.u64 (IntKind.wrap IntKind.u64 (y * 256) + IntKind.wrap IntKind.u64 (List.getD b (Int.toNat (IntKind.wrap IntKind.i64 (p1 + i))) 0)))))) (r23Num.L (y) v)
theorem r23Num.st_ok (b : List Int) (p1 : Int) (size : Int) (i : Int) (y : Int) (J : St El → Prop) (v : Int) : evCode (mkCx Try.prog S tab_r23Put 0) (evFun (mkCx Try.prog S tab_r23Put 0) 3) (loopB Try.prog 99 [true, true, false, true, false]) (r23Num.hd b p1 size i y) (roundK (C := (mkCx Try.prog S tab_r23Put 0)) [8, 7, 0, 1] [] J (loopK (mkCx Try.prog S tab_r23Put 0) 3 99 [true, true, false, true, false] (fun r' H' => Gives r' H' (r23Num.res v) (r23Num.news v)))) = r23Num.st b p1 size i y J v := by kernel_rfl
def r23Num.rng (b : List Int) (p1 : Int) (size : Int) (n0 : Nat) (i : Int) (y : Int) : Prop := -1 ≤ i ∧ i < size ∧ (i + 1).toNat < n0 ∧ 0 ≤ p1 ∧ p1 + size ≤ b.length ∧ size ≤ 8 ∧ p1 ≤ 1099511627776
theorem r23Num.lp (b : List Int) (p1 : Int) (size : Int) (hp : 0 ≤ p1 ∧ 0 ≤ size ∧ size ≤ 8 ∧ p1 + size ≤ b.length ∧ p1 ≤ 1099511627776) (v : Int) (n0 : Nat) (i : Int) (y : Int) (hv : v = r23Num.go b p1 size n0 i y) (h0 : r23Num.rng b p1 size n0 i y) (st : St El) (q1 : okH [8, 7, 0, 1] [] st = true) (q2 : headS [8, 7, 0, 1] [] st = r23Num.hd b p1 size i y) : evCode (mkCx Try.prog S tab_r23Put 0) (evFun (mkCx Try.prog S tab_r23Put 0) 3) (.loop (loopB Try.prog 99 [true, true, false, true, false])) st (loopK (mkCx Try.prog S tab_r23Put 0) 3 99 [true, true, false, true, false] (fun r' H' => Gives r' H' (r23Num.res v) (r23Num.news v))) := by
  refine loop_ev (by kernel_rfl) (evFun_mono _ _) [8, 7, 0, 1] [] (X := Nat × Int × Int) (fun x => r23Num.hd b p1 size x.2.1 x.2.2) (fun x => x.1) (fun x => r23Num.rng b p1 size x.1 x.2.1 x.2.2 ∧ v = r23Num.go b p1 size x.1 x.2.1 x.2.2) (n0, i, y) ⟨q1, q2⟩ ⟨h0, hv⟩ ?_
  clear h0 hv q1 q2
  rintro ⟨n0, i, y⟩ ⟨hr, hv⟩
  dsimp only at hr hv
  cases n0 with
  | zero => exact absurd hr (by unfold r23Num.rng; omega)
  | succ n0 =>
  unfold r23Num.rng at hr
  unfold r23Num.go at hv
  refine (r23Num.st_ok b p1 size i y _ _).mpr ?_
  unfold r23Num.st
  revert hv; refine by_cond2 (fun hb hv => ?_) (fun hb hv => ?_)
  · refine ⟨⟨by (try clear hv); (try clear q1 q2); (try clear hk); ((try simp only [decide_eq_true_eq, decide_eq_false_iff_not, Bool.not_eq_true, Bool.not_eq_false, Bool.and_eq_true, Bool.or_eq_true, Bool.not_not, cond_and, cond_or, List.length_append, List.length_cons, List.length_nil] at *); have h2 := wi64 (p1 + i) (by omega) (by omega); omega)⟩, ?_⟩
    exact ⟨(n0, (IntKind.wrap IntKind.i64 (i - (1 : Int))), (IntKind.wrap IntKind.u64
  (IntKind.wrap IntKind.u64 (y * (256 : Int)) +
    IntKind.wrap IntKind.u64 (List.getD b (Int.toNat (IntKind.wrap IntKind.i64 (p1 + i))) (0 : Int))))), (by kernel_rfl), Nat.lt_succ_self n0, (by dsimp only; unfold r23Num.rng; (try clear hv); (try clear q1 q2); (try clear hk); ((try simp only [decide_eq_true_eq, decide_eq_false_iff_not, Bool.not_eq_true, Bool.not_eq_false, Bool.and_eq_true, Bool.or_eq_true, Bool.not_not, cond_and, cond_or, List.length_append, List.length_cons, List.length_nil] at *); have h2 := wi64 (i - (1 : Int)) (by omega) (by omega); omega)), hv⟩
  · subst hv; exact ⟨rfl, rfl⟩
def r23Num (b : List Int) (p1 : Int) (size : Int) : Int := r23Num.go b p1 size (size.toNat + 1) (IntKind.wrap IntKind.i64 (size - (1 : Int))) ((0 : Int))
def r23Num.dec (cs : List (AV El)) : Option ((List Int) × Int × Int) := popS 5 cs fun a0 c0 => popI .i64 c0 fun a1 c1 => popI .i64 c1 fun a2 c2 => popE c2 (a0, a1, a2)
def r23Num.enc (x : (List Int) × Int × Int) : List (AV El) := [.sl 5 (x.1 : List (El 5)) false, .v (.int .i64 x.2.1), .v (.int .i64 x.2.2)]
theorem r23Num.dec_ok : ∀ cs x, r23Num.dec cs = some x → Imp (S := S) cs (r23Num.enc x) := by
  intro cs x h
  unfold r23Num.dec at h
  obtain ⟨a0, c0, h0, k0⟩ := popS_some (S := S) (t := 5) h
  obtain ⟨a1, c1, rfl, h1⟩ := popI_some (S := S) h0
  obtain ⟨a2, c2, rfl, h2⟩ := popI_some (S := S) h1
  obtain ⟨rfl, rfl⟩ := popE_some (S := S) h2
  exact (k0 _ (.cons (.cons (.refl _))))
def r23Num.nf (b : List Int) (p1 : Int) (size : Int) (v : Int) : Prop := evCode (mkCx Try.prog S tab_r23Put 0) (evFun (mkCx Try.prog S tab_r23Put 0) 3) (.loop (loopB Try.prog 99 [true, true, false, true, false])) ({ lo := 0, slots := [(8, .v (.int .i64 (IntKind.wrap IntKind.i64 (size - 1)))), (10, .v (.int .i64 (IntKind.wrap IntKind.i64 (size - 1)))), (9, .v (.int .i64 (size))), (7, .v (.int .u64 (0))), (6, .v (.int .u64 (0))), (0, .sl 5 (b : List (El 5)) false), (1, .v (.int .i64 (p1))), (2, .v (.int .i64 (size)))], n := 26, objs := [] }) (loopK (mkCx Try.prog S tab_r23Put 0) 3 99 [true, true, false, true, false] (fun r' H' => Gives r' H' (r23Num.res v) (r23Num.news v)))
theorem r23Num.nf_ok (b : List Int) (p1 : Int) (size : Int) (v : Int) : evFun (mkCx Try.prog S tab_r23Put 0) 4 99 [.sl 5 (b : List (El 5)) false, .v (.int .i64 p1), .v (.int .i64 size)] [] (fun r' H' => Gives r' H' (r23Num.res v) (r23Num.news v)) = r23Num.nf b p1 size v := by kernel_rfl
theorem r23Num.key (b : List Int) (p1 : Int) (size : Int) (hp : 0 ≤ p1 ∧ 0 ≤ size ∧ size ≤ 8 ∧ p1 + size ≤ b.length ∧ p1 ≤ 1099511627776) (v : Int) (hv : v = r23Num b p1 size) : r23Num.nf b p1 size v := by
  unfold r23Num at hv
  unfold r23Num.nf
  exact r23Num.lp b p1 size hp v _ _ _ hv (by unfold r23Num.rng; (try clear hv); (try clear q1 q2); (try clear hk); (have h2 := wi64 (size - (1 : Int)) (by omega) (by omega); omega)) _ (by kernel_rfl) (by kernel_rfl)
def r23Num.ct : Ct El := ctOf r23Num.dec (fun x => [0 ≤ x.2.1 ∧ 0 ≤ x.2.2 ∧ x.2.2 ≤ 8 ∧ x.2.1 + x.2.2 ≤ x.1.length ∧ x.2.1 ≤ 1099511627776]) (fun x => r23Num.res (r23Num x.1 x.2.1 x.2.2)) (fun x => r23Num.news (r23Num x.1 x.2.1 x.2.2))
theorem r23Num.ok : CtOk (mkCx Try.prog S [] 0) 99 r23Num.ct := ct_mk (C := (mkCx Try.prog S tab_r23Put 0)) (mkCx_ok sigOk mixed tab_r23Put_ok 0) r23Num.dec_ok (fun x => rfl) 4 (fun x hp => (r23Num.nf_ok x.1 x.2.1 x.2.2 _).mpr (r23Num.key x.1 x.2.1 x.2.2 (hp _ (List.mem_singleton.2 rfl)) _ rfl))
def tab_r23Num : List (FuncId × Ct El) := (99, r23Num.ct) :: tab_r23Put
theorem tab_r23Num_ok : TabOk Try.prog S tab_r23Num := ⟨r23Num.ok, by kernel_rfl, tab_r23Put_ok⟩

end Go.Aw.W
