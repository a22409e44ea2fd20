/- Contracts of the seat (printed by ct.py). -/
import Derived.Test.YtcpcakglnckpeaaDoorW3
set_option linter.unusedVariables false
set_option linter.unusedSimpArgs false
set_option maxRecDepth 20000
set_option maxHeartbeats 1000000
namespace Go.Aw.W
open Go Go.Aw Go.Proofs
attribute [local irreducible] evCode evFun evOps evDs evOne ctxK loopK loopB subC bodyC headS okH roundK

theorem r1Power_pow : ∀ n : Nat, n < 64 → r1Power (n : Int) = (2 : Int) ^ n := by decide +kernel
theorem r1Power_eq {b : Int} (h0 : 0 ≤ b) (h1 : b ≤ 63) : r1Power b = 2 ^ b.toNat := by
  have := r1Power_pow b.toNat (by omega)
  rwa [Int.toNat_of_nonneg h0] at this
theorem r1Power_ne {b : Int} (h0 : 0 ≤ b) (h1 : b ≤ 63) : r1Power b ≠ 0 := by
  rw [r1Power_eq h0 h1]
  have : (0 : Int) < 2 ^ b.toNat := Int.pow_pos (by decide)
  omega
theorem sumDrop (parts : List (List Int)) (i : Int) (h0 : 0 ≤ i) (h : i < parts.length) : ((parts.drop i.toNat).map List.length).sum = (parts.getD i.toNat []).length + ((parts.drop (i + 1).toNat).map List.length).sum := by
  have h1 : i.toNat < parts.length := by omega
  have h2 : (i + 1).toNat = i.toNat + 1 := by omega
  rw [List.drop_eq_getElem_cons h1, h2, List.map_cons, List.sum_cons]
  simp only [List.getD, List.getElem?_eq_getElem h1, Option.getD_some]

/-! wireless/wirelessref01.Low -/
def r1Low.res (r : Int) : AV El := .v (.int .u64 (r))
def r1Low.news (r : Int) : List (AObj El) := []
def r1Low (n : Int) (bits : Int) : Int := cond (decide (bits < (0 : Int))) ((0 : Int)) (cond (decide ((63 : Int) < bits)) (n) (Int.tmod n (r1Power bits)))
def r1Low.dec (cs : List (AV El)) : Option (Int × Int) := popI .u64 cs fun a0 c0 => popI .i64 c0 fun a1 c1 => popE c1 (a0, a1)
def r1Low.enc (x : Int × Int) : List (AV El) := [.v (.int .u64 x.1), .v (.int .i64 x.2)]
theorem r1Low.dec_ok : ∀ cs x, r1Low.dec cs = some x → Imp (S := S) cs (r1Low.enc x) := by
  intro cs x h
  unfold r1Low.dec at h
  obtain ⟨a0, c0, rfl, h0⟩ := popI_some (S := S) h
  obtain ⟨a1, c1, rfl, h1⟩ := popI_some (S := S) h0
  obtain ⟨rfl, rfl⟩ := popE_some (S := S) h1
  exact (.cons (.cons (.refl _)))
def r1Low.nf (n : Int) (bits : Int) (K : AV El → List (AObj El) → Prop) : Prop := cond (decide (bits < (0 : Int))) (K (.v (.int .u64 ((0 : Int)))) []) (cond (decide ((63 : Int) < bits)) (K (.v (.int .u64 (n))) []) (Ob (bits ≤ (9223372036854775807 : Int)) ∧ (Ob (r1Power bits ≠ (0 : Int)) ∧ (K (.v (.int .u64 (Int.tmod n (r1Power bits)))) []))))
theorem r1Low.nf_ok (n : Int) (bits : Int) (K : AV El → List (AObj El) → Prop) : evFun (mkCx Tryd.prog S tab_r2Num 0) 4 95 [.v (.int .u64 n), .v (.int .i64 bits)] [] K = r1Low.nf n bits K := by kernel_rfl
theorem r1Low.key (n : Int) (bits : Int) (v : Int) (hv : v = r1Low n bits) : r1Low.nf n bits (fun r' H' => Gives r' H' (r1Low.res v) (r1Low.news v)) := by
  unfold r1Low at hv
  unfold r1Low.nf
  revert hv; refine by_cond2 (fun hb hv => ?_) (fun hb hv => ?_)
  · subst hv; exact And.intro (by kernel_rfl) (by kernel_rfl)
  · revert hv; refine by_cond2 (fun hb hv => ?_) (fun hb hv => ?_)
    · subst hv; exact And.intro (by kernel_rfl) (by kernel_rfl)
    · refine ⟨⟨by (try clear hv); (try clear q1 q2); (try clear hk); (first | omega | ((try simp only [decide_eq_true_eq, decide_eq_false_iff_not, Bool.not_eq_true, Bool.not_eq_false, Bool.and_eq_true, Bool.or_eq_true, Bool.not_not, cond_and, cond_or, List.length_append, List.length_cons, List.length_nil] at *); (first | omega | (intros; (try simp only [Bool.not_not, cond_and, cond_or, Bool.and_eq_true, decide_eq_true_eq] at *); (exact band_nn rfl _ _)) | (intros; (try simp only [Bool.not_not, cond_and, cond_or, Bool.and_eq_true, decide_eq_true_eq] at *); (exact (wu64s _).2.1)) | (intros; (try simp only [Bool.not_not, cond_and, cond_or, Bool.and_eq_true, decide_eq_true_eq] at *); (simp only [Bool.or_eq_false_iff, Bool.and_eq_false_iff, decide_eq_false_iff_not, decide_eq_true_eq, bne_iff_ne, beq_iff_eq, bne_eq_false_iff_eq, beq_eq_false_iff_ne, ne_eq, true_and] at *; omega)) | (intros; (try simp only [Bool.not_not, cond_and, cond_or, Bool.and_eq_true, decide_eq_true_eq] at *); (simp only [List.length_drop, List.length_take, List.length_append, List.length_cons, List.length_nil] at *; omega)) | (intros; (try simp only [Bool.not_not, cond_and, cond_or, Bool.and_eq_true, decide_eq_true_eq] at *); exact r1Power_ne (by omega) (by omega)) | (intros; omega) | (intros; simp only [sized_iff, Bool.not_not, cond_and, cond_or, Bool.and_eq_true, decide_eq_true_eq] at *; omega) | (intros; simp_all [sized_iff, Bool.not_not]; done))))⟩, ?_⟩
      refine ⟨⟨by (try clear hv); (try clear q1 q2); (try clear hk); (first | omega | ((try simp only [decide_eq_true_eq, decide_eq_false_iff_not, Bool.not_eq_true, Bool.not_eq_false, Bool.and_eq_true, Bool.or_eq_true, Bool.not_not, cond_and, cond_or, List.length_append, List.length_cons, List.length_nil] at *); (first | omega | (intros; (try simp only [Bool.not_not, cond_and, cond_or, Bool.and_eq_true, decide_eq_true_eq] at *); (exact band_nn rfl _ _)) | (intros; (try simp only [Bool.not_not, cond_and, cond_or, Bool.and_eq_true, decide_eq_true_eq] at *); (exact (wu64s _).2.1)) | (intros; (try simp only [Bool.not_not, cond_and, cond_or, Bool.and_eq_true, decide_eq_true_eq] at *); (simp only [Bool.or_eq_false_iff, Bool.and_eq_false_iff, decide_eq_false_iff_not, decide_eq_true_eq, bne_iff_ne, beq_iff_eq, bne_eq_false_iff_eq, beq_eq_false_iff_ne, ne_eq, true_and] at *; omega)) | (intros; (try simp only [Bool.not_not, cond_and, cond_or, Bool.and_eq_true, decide_eq_true_eq] at *); (simp only [List.length_drop, List.length_take, List.length_append, List.length_cons, List.length_nil] at *; omega)) | (intros; (try simp only [Bool.not_not, cond_and, cond_or, Bool.and_eq_true, decide_eq_true_eq] at *); exact r1Power_ne (by omega) (by omega)) | (intros; omega) | (intros; simp only [sized_iff, Bool.not_not, cond_and, cond_or, Bool.and_eq_true, decide_eq_true_eq] at *; omega) | (intros; simp_all [sized_iff, Bool.not_not]; done))))⟩, ?_⟩
      subst hv; exact And.intro (by kernel_rfl) (by kernel_rfl)
def r1Low.ct : Ct El := ctOf r1Low.dec (fun _ => []) (fun x => r1Low.res (r1Low x.1 x.2)) (fun x => r1Low.news (r1Low x.1 x.2))
theorem r1Low.ok : CtOk (mkCx Tryd.prog S [] 0) 95 r1Low.ct := ct_mk (C := (mkCx Tryd.prog S tab_r2Num 0)) (mkCx_ok sigOk mixed tab_r2Num_ok 0) r1Low.dec_ok (fun x => rfl) 4 (fun x _ => (r1Low.nf_ok x.1 x.2 _).mpr (r1Low.key x.1 x.2 _ rfl))
def tab_r1Low : List (FuncId × Ct El) := (95, r1Low.ct) :: tab_r2Num
theorem tab_r1Low_ok : TabOk Tryd.prog S tab_r1Low := ⟨r1Low.ok, by kernel_rfl, tab_r2Num_ok⟩

/-! wireless/wirelessref12.Has -/
def r12Has.res (r : Bool) : AV El := .v (.bool (r))
def r12Has.news (r : Bool) : List (AObj El) := []
def r12Has (m : Int) (channel : Int) : Bool := bif bif decide ((0 : Int) ≤ channel) then decide (channel ≤ (36 : Int)) else false then
  Int.tmod (IntKind.wrap IntKind.u64 (Int.tdiv m (r1Power channel))) (2 : Int) == (1 : Int)
else false
def r12Has.dec (cs : List (AV El)) : Option (Int × Int) := popI .u64 cs fun a0 c0 => popI .i64 c0 fun a1 c1 => popE c1 (a0, a1)
def r12Has.enc (x : Int × Int) : List (AV El) := [.v (.int .u64 x.1), .v (.int .i64 x.2)]
theorem r12Has.dec_ok : ∀ cs x, r12Has.dec cs = some x → Imp (S := S) cs (r12Has.enc x) := by
  intro cs x h
  unfold r12Has.dec at h
  obtain ⟨a0, c0, rfl, h0⟩ := popI_some (S := S) h
  obtain ⟨a1, c1, rfl, h1⟩ := popI_some (S := S) h0
  obtain ⟨rfl, rfl⟩ := popE_some (S := S) h1
  exact (.cons (.cons (.refl _)))
def r12Has.nf (m : Int) (channel : Int) (K : AV El → List (AObj El) → Prop) : Prop := Ob (o3 (decide ((0 : Int) ≤ channel))) ∧ (Ob (o2 (decide ((0 : Int) ≤ channel))) ∧ (Ob (o3 (bif decide ((0 : Int) ≤ channel) then decide (channel ≤ (36 : Int)) else false)) ∧ (Ob ((bif decide ((0 : Int) ≤ channel) then decide (channel ≤ (36 : Int)) else false) = true →
  channel ≤ (9223372036854775807 : Int)) ∧ (Ob (o3 (bif decide ((0 : Int) ≤ channel) then decide (channel ≤ (36 : Int)) else false)) ∧ (Ob (o3 (bif decide ((0 : Int) ≤ channel) then decide (channel ≤ (36 : Int)) else false)) ∧ (Ob ((bif decide ((0 : Int) ≤ channel) then decide (channel ≤ (36 : Int)) else false) = true → r1Power channel ≠ (0 : Int)) ∧ (Ob (o3 (bif decide ((0 : Int) ≤ channel) then decide (channel ≤ (36 : Int)) else false)) ∧ (Ob ((bif decide ((0 : Int) ≤ channel) then decide (channel ≤ (36 : Int)) else false) = true → (2 : Int) ≠ (0 : Int)) ∧ (Ob (o3 (bif decide ((0 : Int) ≤ channel) then decide (channel ≤ (36 : Int)) else false)) ∧ (Ob (o2 (bif decide ((0 : Int) ≤ channel) then decide (channel ≤ (36 : Int)) else false)) ∧ (K (.v (.bool (bif bif decide ((0 : Int) ≤ channel) then decide (channel ≤ (36 : Int)) else false then
  Int.tmod (IntKind.wrap IntKind.u64 (Int.tdiv m (r1Power channel))) (2 : Int) == (1 : Int)
else false))) [])))))))))))
theorem r12Has.nf_ok (m : Int) (channel : Int) (K : AV El → List (AObj El) → Prop) : evFun (mkCx Tryd.prog S tab_r2Num 0) 4 106 [.v (.int .u64 m), .v (.int .i64 channel)] [] K = r12Has.nf m channel K := by kernel_rfl
theorem r12Has.key (m : Int) (channel : Int) (v : Bool) (hv : v = r12Has m channel) : r12Has.nf m channel (fun r' H' => Gives r' H' (r12Has.res v) (r12Has.news v)) := by
  unfold r12Has at hv
  unfold r12Has.nf
  refine ⟨⟨o3_ok _⟩, ?_⟩
  refine ⟨⟨o2_ok _⟩, ?_⟩
  refine ⟨⟨o3_ok _⟩, ?_⟩
  refine ⟨⟨by (try clear hv); (try clear q1 q2); (try clear hk); (first | omega | ((try simp only [decide_eq_true_eq, decide_eq_false_iff_not, Bool.not_eq_true, Bool.not_eq_false, Bool.and_eq_true, Bool.or_eq_true, Bool.not_not, cond_and, cond_or, List.length_append, List.length_cons, List.length_nil] at *); (first | omega | (intros; (try simp only [Bool.not_not, cond_and, cond_or, Bool.and_eq_true, decide_eq_true_eq] at *); (exact band_nn rfl _ _)) | (intros; (try simp only [Bool.not_not, cond_and, cond_or, Bool.and_eq_true, decide_eq_true_eq] at *); (exact (wu64s _).2.1)) | (intros; (try simp only [Bool.not_not, cond_and, cond_or, Bool.and_eq_true, decide_eq_true_eq] at *); (simp only [Bool.or_eq_false_iff, Bool.and_eq_false_iff, decide_eq_false_iff_not, decide_eq_true_eq, bne_iff_ne, beq_iff_eq, bne_eq_false_iff_eq, beq_eq_false_iff_ne, ne_eq, true_and] at *; omega)) | (intros; (try simp only [Bool.not_not, cond_and, cond_or, Bool.and_eq_true, decide_eq_true_eq] at *); (simp only [List.length_drop, List.length_take, List.length_append, List.length_cons, List.length_nil] at *; omega)) | (intros; (try simp only [Bool.not_not, cond_and, cond_or, Bool.and_eq_true, decide_eq_true_eq] at *); exact r1Power_ne (by omega) (by omega)) | (intros; omega) | (intros; simp only [sized_iff, Bool.not_not, cond_and, cond_or, Bool.and_eq_true, decide_eq_true_eq] at *; omega) | (intros; simp_all [sized_iff, Bool.not_not]; done))))⟩, ?_⟩
  refine ⟨⟨o3_ok _⟩, ?_⟩
  refine ⟨⟨o3_ok _⟩, ?_⟩
  refine ⟨⟨by (try clear hv); (try clear q1 q2); (try clear hk); (first | omega | ((try simp only [decide_eq_true_eq, decide_eq_false_iff_not, Bool.not_eq_true, Bool.not_eq_false, Bool.and_eq_true, Bool.or_eq_true, Bool.not_not, cond_and, cond_or, List.length_append, List.length_cons, List.length_nil] at *); (first | omega | (intros; (try simp only [Bool.not_not, cond_and, cond_or, Bool.and_eq_true, decide_eq_true_eq] at *); (exact band_nn rfl _ _)) | (intros; (try simp only [Bool.not_not, cond_and, cond_or, Bool.and_eq_true, decide_eq_true_eq] at *); (exact (wu64s _).2.1)) | (intros; (try simp only [Bool.not_not, cond_and, cond_or, Bool.and_eq_true, decide_eq_true_eq] at *); (simp only [Bool.or_eq_false_iff, Bool.and_eq_false_iff, decide_eq_false_iff_not, decide_eq_true_eq, bne_iff_ne, beq_iff_eq, bne_eq_false_iff_eq, beq_eq_false_iff_ne, ne_eq, true_and] at *; omega)) | (intros; (try simp only [Bool.not_not, cond_and, cond_or, Bool.and_eq_true, decide_eq_true_eq] at *); (simp only [List.length_drop, List.length_take, List.length_append, List.length_cons, List.length_nil] at *; omega)) | (intros; (try simp only [Bool.not_not, cond_and, cond_or, Bool.and_eq_true, decide_eq_true_eq] at *); exact r1Power_ne (by omega) (by omega)) | (intros; omega) | (intros; simp only [sized_iff, Bool.not_not, cond_and, cond_or, Bool.and_eq_true, decide_eq_true_eq] at *; omega) | (intros; simp_all [sized_iff, Bool.not_not]; done))))⟩, ?_⟩
  refine ⟨⟨o3_ok _⟩, ?_⟩
  refine ⟨⟨by (try clear hv); (try clear q1 q2); (try clear hk); (first | omega | ((try simp only [decide_eq_true_eq, decide_eq_false_iff_not, Bool.not_eq_true, Bool.not_eq_false, Bool.and_eq_true, Bool.or_eq_true, Bool.not_not, cond_and, cond_or, List.length_append, List.length_cons, List.length_nil] at *); (first | omega | (intros; (try simp only [Bool.not_not, cond_and, cond_or, Bool.and_eq_true, decide_eq_true_eq] at *); (exact band_nn rfl _ _)) | (intros; (try simp only [Bool.not_not, cond_and, cond_or, Bool.and_eq_true, decide_eq_true_eq] at *); (exact (wu64s _).2.1)) | (intros; (try simp only [Bool.not_not, cond_and, cond_or, Bool.and_eq_true, decide_eq_true_eq] at *); (simp only [Bool.or_eq_false_iff, Bool.and_eq_false_iff, decide_eq_false_iff_not, decide_eq_true_eq, bne_iff_ne, beq_iff_eq, bne_eq_false_iff_eq, beq_eq_false_iff_ne, ne_eq, true_and] at *; omega)) | (intros; (try simp only [Bool.not_not, cond_and, cond_or, Bool.and_eq_true, decide_eq_true_eq] at *); (simp only [List.length_drop, List.length_take, List.length_append, List.length_cons, List.length_nil] at *; omega)) | (intros; (try simp only [Bool.not_not, cond_and, cond_or, Bool.and_eq_true, decide_eq_true_eq] at *); exact r1Power_ne (by omega) (by omega)) | (intros; omega) | (intros; simp only [sized_iff, Bool.not_not, cond_and, cond_or, Bool.and_eq_true, decide_eq_true_eq] at *; omega) | (intros; simp_all [sized_iff, Bool.not_not]; done))))⟩, ?_⟩
  refine ⟨⟨o3_ok _⟩, ?_⟩
  refine ⟨⟨o2_ok _⟩, ?_⟩
  subst hv; exact And.intro (by kernel_rfl) (by kernel_rfl)
def r12Has.ct : Ct El := ctOf r12Has.dec (fun _ => []) (fun x => r12Has.res (r12Has x.1 x.2)) (fun x => r12Has.news (r12Has x.1 x.2))
theorem r12Has.ok : CtOk (mkCx Tryd.prog S [] 0) 106 r12Has.ct := ct_mk (C := (mkCx Tryd.prog S tab_r2Num 0)) (mkCx_ok sigOk mixed tab_r2Num_ok 0) r12Has.dec_ok (fun x => rfl) 4 (fun x _ => (r12Has.nf_ok x.1 x.2 _).mpr (r12Has.key x.1 x.2 _ rfl))
def tab_r12Has : List (FuncId × Ct El) := (106, r12Has.ct) :: tab_r1Low
theorem tab_r12Has_ok : TabOk Tryd.prog S tab_r12Has := ⟨r12Has.ok, by kernel_rfl, tab_r1Low_ok⟩

/-! wireless/chanmap.Count -/
def kOnes.res (r : Int) : AV El := .v (.int .i64 (r))
def kOnes.news (r : Int) : List (AObj El) := []
def kOnes (m : Int) : Int := ones (bandK IntKind.u64 m (137438953471 : Int))
def kOnes.dec (cs : List (AV El)) : Option (Int) := popI .u64 cs fun a0 c0 => popE c0 a0
def kOnes.enc (x : Int) : List (AV El) := [.v (.int .u64 x)]
theorem kOnes.dec_ok : ∀ cs x, kOnes.dec cs = some x → Imp (S := S) cs (kOnes.enc x) := by
  intro cs x h
  unfold kOnes.dec at h
  obtain ⟨a0, c0, rfl, h0⟩ := popI_some (S := S) h
  obtain ⟨rfl, rfl⟩ := popE_some (S := S) h0
  exact (.cons (.refl _))
def kOnes.nf (m : Int) (K : AV El → List (AObj El) → Prop) : Prop := K (.v (.int .i64 (ones (bandK IntKind.u64 m (137438953471 : Int))))) []
theorem kOnes.nf_ok (m : Int) (K : AV El → List (AObj El) → Prop) : evFun (mkCx Tryd.prog S tab_r2Num 0) 4 92 [.v (.int .u64 m)] [] K = kOnes.nf m K := by kernel_rfl
theorem kOnes.key (m : Int) (v : Int) (hv : v = kOnes m) : kOnes.nf m (fun r' H' => Gives r' H' (kOnes.res v) (kOnes.news v)) := by
  unfold kOnes at hv
  unfold kOnes.nf
  subst hv; exact And.intro (by kernel_rfl) (by kernel_rfl)
def kOnes.ct : Ct El := ctOf kOnes.dec (fun _ => []) (fun x => kOnes.res (kOnes x)) (fun x => kOnes.news (kOnes x))
theorem kOnes.ok : CtOk (mkCx Tryd.prog S [] 0) 92 kOnes.ct := ct_mk (C := (mkCx Tryd.prog S tab_r2Num 0)) (mkCx_ok sigOk mixed tab_r2Num_ok 0) kOnes.dec_ok (fun x => rfl) 4 (fun x _ => (kOnes.nf_ok x _).mpr (kOnes.key x _ rfl))
def tab_kOnes : List (FuncId × Ct El) := (92, kOnes.ct) :: tab_r12Has
theorem tab_kOnes_ok : TabOk Tryd.prog S tab_kOnes := ⟨kOnes.ok, by kernel_rfl, tab_r12Has_ok⟩

/-! wireless/octets.Join -/
def oJoin.res (r : (List Int)) : AV El := .gs 0
def oJoin.news (r : (List Int)) : List (AObj El) := [.row 5 (r : List (El 5))]
def oJoin.go (parts : List (List Int)) : Nat → Int → (List Int) → (List Int)
  | 0, _, _ => []
  | n0 + 1, i, out => cond (decide (i < (↑(List.length parts) : Int))) (oJoin.go parts n0 (IntKind.wrap IntKind.i64 (i + (1 : Int))) (out ++ List.getD parts (Int.toNat i) [])) (out)
def oJoin.hd (parts : List (List Int)) (i : Int) (out : List Int) : St El := { lo := 0, slots := [(8, .v (.int .i64 (i))), (7, .v (.int .i64 ((↑(List.length parts) : Int)))), (6, .sl 45 (parts : List (El 45)) false), (3, .gs 0)], n := 17, objs := [.row 5 (out : List (El 5))] }
def oJoin.st (parts : List (List Int)) (i : Int) (out : List Int) (J : St El → Prop) (K : AV El → List (AObj El) → Prop) : Prop := cond (decide (i < (↑(List.length parts) : Int))) (Ob ((0 : Int) ≤ i ∧ i < (↑(List.length parts) : Int)) ∧ (Ob ((List.length out + List.length (List.getD parts (Int.toNat i) [])) * (1 : Nat) ≤ (140737488355328 : Nat)) ∧ (J (oJoin.hd parts (IntKind.wrap IntKind.i64 (i + (1 : Int))) (out ++ List.getD parts (Int.toNat i) []))))) (K (.gs 0) [.row 5 (out : List (El 5))])
theorem oJoin.st_ok (parts : List (List Int)) (i : Int) (out : List Int) (J : St El → Prop) (K : AV El → List (AObj El) → Prop) : evCode (mkCx Tryd.prog S tab_kOnes 0) (evFun (mkCx Tryd.prog S tab_kOnes 0) 3) (loopB Tryd.prog 102 [true, true, false, true, false]) (oJoin.hd parts i out) (roundK (C := (mkCx Tryd.prog S tab_kOnes 0)) [8, 7, 6, 3] [.slot 3 5] J (loopK (mkCx Tryd.prog S tab_kOnes 0) 3 102 [true, true, false, true, false] K)) = oJoin.st parts i out J K := by kernel_rfl
def oJoin.rng (parts : List (List Int)) (n0 : Nat) (i : Int) (out : List Int) : Prop := 0 ≤ i ∧ i ≤ parts.length ∧ (parts.length - i).toNat < n0 ∧ parts.length ≤ 9223372036854775807 ∧ out.length + ((parts.drop i.toNat).map List.length).sum ≤ 140737488355328
theorem oJoin.lp (parts : List (List Int)) (hp : (parts.map List.length).sum ≤ 140737488355328) (v : (List Int)) (n0 : Nat) (i : Int) (out : List Int) (hv : v = oJoin.go parts n0 i out) (h0 : oJoin.rng parts n0 i out) (st : St El) (q1 : okH [8, 7, 6, 3] [.slot 3 5] st = true) (q2 : headS [8, 7, 6, 3] [.slot 3 5] st = oJoin.hd parts i out) : evCode (mkCx Tryd.prog S tab_kOnes 0) (evFun (mkCx Tryd.prog S tab_kOnes 0) 3) (.loop (loopB Tryd.prog 102 [true, true, false, true, false])) st (loopK (mkCx Tryd.prog S tab_kOnes 0) 3 102 [true, true, false, true, false] (fun r' H' => Gives r' H' (oJoin.res v) (oJoin.news v))) := by
  refine loop_ev rfl (evFun_mono _ _) [8, 7, 6, 3] [.slot 3 5] (X := Nat × Int × (List Int)) (fun x => oJoin.hd parts x.2.1 x.2.2) (fun x => x.1) (fun x => oJoin.rng parts x.1 x.2.1 x.2.2 ∧ v = oJoin.go parts x.1 x.2.1 x.2.2) (n0, i, out) ⟨q1, q2⟩ ⟨h0, hv⟩ ?_
  clear h0 hv q1 q2
  rintro ⟨n0, i, out⟩ ⟨hr, hv⟩
  dsimp only at hr hv
  cases n0 with
  | zero => exact absurd hr (by unfold oJoin.rng; omega)
  | succ n0 =>
  unfold oJoin.rng at hr
  unfold oJoin.go at hv
  refine (oJoin.st_ok parts i out _ _).mpr ?_
  unfold oJoin.st
  revert hv; refine by_cond2 (fun hb hv => ?_) (fun hb hv => ?_)
  · refine ⟨⟨by (try clear hv); (try clear q1 q2); (try clear hk); (simp only [decide_eq_true_eq] at *; first | omega | (have h1 := sumDrop parts i (by omega) (by omega); omega))⟩, ?_⟩
    refine ⟨⟨by (try clear hv); (try clear q1 q2); (try clear hk); (simp only [decide_eq_true_eq] at *; first | omega | (have h1 := sumDrop parts i (by omega) (by omega); omega))⟩, ?_⟩
    exact ⟨(n0, (IntKind.wrap IntKind.i64 (i + (1 : Int))), (out ++ List.getD parts (Int.toNat i) [])), (by kernel_rfl), Nat.lt_succ_self n0, (by dsimp only; unfold oJoin.rng; (try clear hv); (try clear q1 q2); (try clear hk); (simp only [decide_eq_true_eq, List.length_append] at *; have h1 := sumDrop parts i (by omega) (by omega); have h2 := wi64 (i + (1 : Int)) (by omega) (by omega); rw [h2]; omega)), hv⟩
  · subst hv; exact And.intro (by kernel_rfl) (by kernel_rfl)
def oJoin (parts : List (List Int)) : (List Int) := oJoin.go parts (parts.length + 1) ((0 : Int)) ([])
def oJoin.dec (cs : List (AV El)) : Option ((List (List Int))) := popS 45 cs fun a0 c0 => popE c0 a0
def oJoin.enc (x : (List (List Int))) : List (AV El) := [.sl 45 (x : List (El 45)) false]
theorem oJoin.dec_ok : ∀ cs x, oJoin.dec cs = some x → Imp (S := S) cs (oJoin.enc x) := by
  intro cs x h
  unfold oJoin.dec at h
  obtain ⟨a0, c0, h0, k0⟩ := popS_some (S := S) (t := 45) h
  obtain ⟨rfl, rfl⟩ := popE_some (S := S) h0
  exact (k0 _ (.refl _))
def oJoin.nf (parts : List (List Int)) (K : AV El → List (AObj El) → Prop) : Prop := (List.length parts ≤ (9223372036854775807 : Nat)) → (evCode (mkCx Tryd.prog S tab_kOnes 0) (evFun (mkCx Tryd.prog S tab_kOnes 0) 3) (.loop (loopB Tryd.prog 102 [true, true, false, true, false])) ({ lo := 0, slots := [(8, .v (.int .i64 ((0 : Int)))), (7, .v (.int .i64 ((↑(List.length parts) : Int)))), (6, .sl 45 (parts : List (El 45)) false), (3, .v (.slice none 0 0)), (2, .v (.slice none 0 0)), (0, .sl 45 (parts : List (El 45)) false)], n := 17, objs := [] }) (loopK (mkCx Tryd.prog S tab_kOnes 0) 3 102 [true, true, false, true, false] K))
theorem oJoin.nf_ok (parts : List (List Int)) (K : AV El → List (AObj El) → Prop) : evFun (mkCx Tryd.prog S tab_kOnes 0) 4 102 [.sl 45 (parts : List (El 45)) false] [] K = oJoin.nf parts K := by kernel_rfl
theorem oJoin.key (parts : List (List Int)) (hp : (parts.map List.length).sum ≤ 140737488355328) (v : (List Int)) (hv : v = oJoin parts) : oJoin.nf parts (fun r' H' => Gives r' H' (oJoin.res v) (oJoin.news v)) := by
  unfold oJoin at hv
  unfold oJoin.nf
  intro hlen
  exact oJoin.lp parts hp v _ _ _ hv (by unfold oJoin.rng; (try clear hv); (try clear q1 q2); (try clear hk); (simp; omega)) _ (by kernel_rfl) (by kernel_rfl)
def oJoin.ct : Ct El := ctOf oJoin.dec (fun x => [(x.map List.length).sum ≤ 140737488355328]) (fun x => oJoin.res (oJoin x)) (fun x => oJoin.news (oJoin x))
theorem oJoin.ok : CtOk (mkCx Tryd.prog S [] 0) 102 oJoin.ct := ct_mk (C := (mkCx Tryd.prog S tab_kOnes 0)) (mkCx_ok sigOk mixed tab_kOnes_ok 0) oJoin.dec_ok (fun x => rfl) 4 (fun x hp => (oJoin.nf_ok x _).mpr (oJoin.key x (hp _ (List.mem_singleton.2 rfl)) _ rfl))
def tab_oJoin : List (FuncId × Ct El) := (102, oJoin.ct) :: tab_kOnes
theorem tab_oJoin_ok : TabOk Tryd.prog S tab_oJoin := ⟨oJoin.ok, by kernel_rfl, tab_kOnes_ok⟩

/-! wireless/wirelessref02.Value -/
def r2Value.res (r : Int) : AV El := .v (.int .u64 (r))
def r2Value.news (r : Int) : List (AObj El) := []
def r2Value.go (b : List Int) : Nat → Int → Int → Int
  | 0, _, _ => 0
  | n0 + 1, i, x => cond (decide ((0 : Int) ≤ i)) (r2Value.go b n0 (IntKind.wrap IntKind.i64 (i - (1 : Int))) (IntKind.wrap IntKind.u64
  (IntKind.wrap IntKind.u64 (x * (256 : Int)) + IntKind.wrap IntKind.u64 (List.getD b (Int.toNat i) (0 : Int))))) (x)
def r2Value.hd (b : List Int) (i : Int) (x : Int) : St El := { lo := 0, slots := [(4, .v (.int .i64 (i))), (3, .v (.int .u64 (x))), (0, .sl 5 (b : List (El 5)) false)], n := 21, objs := [] }
def r2Value.st (b : List Int) (i : Int) (x : Int) (J : St El → Prop) (K : AV El → List (AObj El) → Prop) : Prop := cond (decide ((0 : Int) ≤ i)) (Ob ((0 : Int) ≤ i ∧ i < (↑(List.length b) : Int)) ∧ (J (r2Value.hd b (IntKind.wrap IntKind.i64 (i - (1 : Int))) (IntKind.wrap IntKind.u64
  (IntKind.wrap IntKind.u64 (x * (256 : Int)) + IntKind.wrap IntKind.u64 (List.getD b (Int.toNat i) (0 : Int))))))) (K (.v (.int .u64 (x))) [])
theorem r2Value.st_ok (b : List Int) (i : Int) (x : Int) (J : St El → Prop) (K : AV El → List (AObj El) → Prop) : evCode (mkCx Tryd.prog S tab_oJoin 0) (evFun (mkCx Tryd.prog S tab_oJoin 0) 3) (loopB Tryd.prog 97 [true, true, false, true, false]) (r2Value.hd b i x) (roundK (C := (mkCx Tryd.prog S tab_oJoin 0)) [4, 3, 0] [] J (loopK (mkCx Tryd.prog S tab_oJoin 0) 3 97 [true, true, false, true, false] K)) = r2Value.st b i x J K := by kernel_rfl
def r2Value.rng (b : List Int) (n0 : Nat) (i : Int) (x : Int) : Prop := -1 ≤ i ∧ i < b.length ∧ (i + 1).toNat < n0 ∧ b.length ≤ 9223372036854775807
theorem r2Value.lp (b : List Int) (v : Int) (n0 : Nat) (i : Int) (x : Int) (hv : v = r2Value.go b n0 i x) (h0 : r2Value.rng b n0 i x) (st : St El) (q1 : okH [4, 3, 0] [] st = true) (q2 : headS [4, 3, 0] [] st = r2Value.hd b i x) : evCode (mkCx Tryd.prog S tab_oJoin 0) (evFun (mkCx Tryd.prog S tab_oJoin 0) 3) (.loop (loopB Tryd.prog 97 [true, true, false, true, false])) st (loopK (mkCx Tryd.prog S tab_oJoin 0) 3 97 [true, true, false, true, false] (fun r' H' => Gives r' H' (r2Value.res v) (r2Value.news v))) := by
  refine loop_ev rfl (evFun_mono _ _) [4, 3, 0] [] (X := Nat × Int × Int) (fun x => r2Value.hd b x.2.1 x.2.2) (fun x => x.1) (fun x => r2Value.rng b x.1 x.2.1 x.2.2 ∧ v = r2Value.go b x.1 x.2.1 x.2.2) (n0, i, x) ⟨q1, q2⟩ ⟨h0, hv⟩ ?_
  clear h0 hv q1 q2
  rintro ⟨n0, i, x⟩ ⟨hr, hv⟩
  dsimp only at hr hv
  cases n0 with
  | zero => exact absurd hr (by unfold r2Value.rng; omega)
  | succ n0 =>
  unfold r2Value.rng at hr
  unfold r2Value.go at hv
  refine (r2Value.st_ok b i x _ _).mpr ?_
  unfold r2Value.st
  revert hv; refine by_cond2 (fun hb hv => ?_) (fun hb hv => ?_)
  · refine ⟨⟨by (try clear hv); (try clear q1 q2); (try clear hk); (first | omega | ((try simp only [decide_eq_true_eq, decide_eq_false_iff_not, Bool.not_eq_true, Bool.not_eq_false, Bool.and_eq_true, Bool.or_eq_true, Bool.not_not, cond_and, cond_or, List.length_append, List.length_cons, List.length_nil] at *); (first | omega | (intros; (try simp only [Bool.not_not, cond_and, cond_or, Bool.and_eq_true, decide_eq_true_eq] at *); (exact band_nn rfl _ _)) | (intros; (try simp only [Bool.not_not, cond_and, cond_or, Bool.and_eq_true, decide_eq_true_eq] at *); (exact (wu64s _).2.1)) | (intros; (try simp only [Bool.not_not, cond_and, cond_or, Bool.and_eq_true, decide_eq_true_eq] at *); (simp only [Bool.or_eq_false_iff, Bool.and_eq_false_iff, decide_eq_false_iff_not, decide_eq_true_eq, bne_iff_ne, beq_iff_eq, bne_eq_false_iff_eq, beq_eq_false_iff_ne, ne_eq, true_and] at *; omega)) | (intros; (try simp only [Bool.not_not, cond_and, cond_or, Bool.and_eq_true, decide_eq_true_eq] at *); (simp only [List.length_drop, List.length_take, List.length_append, List.length_cons, List.length_nil] at *; omega)) | (intros; (try simp only [Bool.not_not, cond_and, cond_or, Bool.and_eq_true, decide_eq_true_eq] at *); exact r1Power_ne (by omega) (by omega)) | (intros; omega) | (intros; simp only [sized_iff, Bool.not_not, cond_and, cond_or, Bool.and_eq_true, decide_eq_true_eq] at *; omega) | (intros; simp_all [sized_iff, Bool.not_not]; done))))⟩, ?_⟩
    exact ⟨(n0, (IntKind.wrap IntKind.i64 (i - (1 : Int))), (IntKind.wrap IntKind.u64
  (IntKind.wrap IntKind.u64 (x * (256 : Int)) + IntKind.wrap IntKind.u64 (List.getD b (Int.toNat i) (0 : Int))))), (by kernel_rfl), Nat.lt_succ_self n0, (by dsimp only; unfold r2Value.rng; (try clear hv); (try clear q1 q2); (try clear hk); (try simp only [decide_eq_true_eq, decide_eq_false_iff_not, Bool.not_eq_true, Bool.not_eq_false, Bool.and_eq_true, Bool.or_eq_true, Bool.not_not, cond_and, cond_or, List.length_append, List.length_cons, List.length_nil] at *); have := wi64s (i - (1 : Int)); have := wu64s (x * (256 : Int)); have := wu64s (List.getD b (Int.toNat i) (0 : Int)); omega), hv⟩
  · subst hv; exact And.intro (by kernel_rfl) (by kernel_rfl)
def r2Value (b : List Int) : Int := r2Value.go b (b.length + 1) (IntKind.wrap IntKind.i64 ((↑(List.length b) : Int) - (1 : Int))) ((0 : Int))
def r2Value.dec (cs : List (AV El)) : Option ((List Int)) := popS 5 cs fun a0 c0 => popE c0 a0
def r2Value.enc (x : (List Int)) : List (AV El) := [.sl 5 (x : List (El 5)) false]
theorem r2Value.dec_ok : ∀ cs x, r2Value.dec cs = some x → Imp (S := S) cs (r2Value.enc x) := by
  intro cs x h
  unfold r2Value.dec at h
  obtain ⟨a0, c0, h0, k0⟩ := popS_some (S := S) (t := 5) h
  obtain ⟨rfl, rfl⟩ := popE_some (S := S) h0
  exact (k0 _ (.refl _))
def r2Value.nf (b : List Int) (K : AV El → List (AObj El) → Prop) : Prop := (List.length b ≤ (9223372036854775807 : Nat)) → (evCode (mkCx Tryd.prog S tab_oJoin 0) (evFun (mkCx Tryd.prog S tab_oJoin 0) 3) (.loop (loopB Tryd.prog 97 [true, true, false, true, false])) ({ lo := 0, slots := [(4, .v (.int .i64 (IntKind.wrap IntKind.i64 ((↑(List.length b) : Int) - (1 : Int))))), (7, .v (.int .i64 (IntKind.wrap IntKind.i64 ((↑(List.length b) : Int) - (1 : Int))))), (6, .v (.int .i64 ((↑(List.length b) : Int)))), (5, .sl 5 (b : List (El 5)) false), (3, .v (.int .u64 ((0 : Int)))), (2, .v (.int .u64 ((0 : Int)))), (0, .sl 5 (b : List (El 5)) false)], n := 21, objs := [] }) (loopK (mkCx Tryd.prog S tab_oJoin 0) 3 97 [true, true, false, true, false] K))
theorem r2Value.nf_ok (b : List Int) (K : AV El → List (AObj El) → Prop) : evFun (mkCx Tryd.prog S tab_oJoin 0) 4 97 [.sl 5 (b : List (El 5)) false] [] K = r2Value.nf b K := by kernel_rfl
theorem r2Value.key (b : List Int) (v : Int) (hv : v = r2Value b) : r2Value.nf b (fun r' H' => Gives r' H' (r2Value.res v) (r2Value.news v)) := by
  unfold r2Value at hv
  unfold r2Value.nf
  intro hlen
  exact r2Value.lp b v _ _ _ hv (by unfold r2Value.rng; (try clear hv); (try clear q1 q2); (try clear hk); (have h2 := wi64s ((b.length : Int) - (1 : Int)); omega)) _ (by kernel_rfl) (by kernel_rfl)
def r2Value.ct : Ct El := ctOf r2Value.dec (fun _ => []) (fun x => r2Value.res (r2Value x)) (fun x => r2Value.news (r2Value x))
theorem r2Value.ok : CtOk (mkCx Tryd.prog S [] 0) 97 r2Value.ct := ct_mk (C := (mkCx Tryd.prog S tab_oJoin 0)) (mkCx_ok sigOk mixed tab_oJoin_ok 0) r2Value.dec_ok (fun x => rfl) 4 (fun x _ => (r2Value.nf_ok x _).mpr (r2Value.key x _ rfl))
def tab_r2Value : List (FuncId × Ct El) := (97, r2Value.ct) :: tab_oJoin
theorem tab_r2Value_ok : TabOk Tryd.prog S tab_r2Value := ⟨r2Value.ok, by kernel_rfl, tab_oJoin_ok⟩

end Go.Aw.W
