/- Contracts of the seat (printed by ct.py). -/
import Derived.Test.YtaoadiciclopbaaDoorW12
set_option linter.unusedVariables false
set_option linter.unusedSimpArgs false
set_option maxRecDepth 20000
set_option maxHeartbeats 1000000
namespace Go.Aw.W
open Go Go.Aw Go.Proofs
attribute [local irreducible] evCode evFun evOps evDs evOne ctxK loopK loopB subC bodyC headS okH roundK

/-! wireless/privacy.At -/
def pAt.res (r : Address) : AV El := Address.av (r)
def pAt.news (r : Address) : List (AObj El) := []
def pAt (irk : Int) (epoch : Int) : Address := (⟨((pMake irk
      (IntKind.wrap IntKind.u32
        (IntKind.wrap IntKind.u64
          ((1 : Int) +
            Int.tmod
              (pDerive irk
                { data := #[(101 : UInt8), (112 : UInt8), (111 : UInt8), (99 : UInt8), (104 : UInt8)] : ByteArray }
                [IntKind.wrap IntKind.u64 epoch])
              (4194302 : Int))))).fst.Kind), ((pMake irk
      (IntKind.wrap IntKind.u32
        (IntKind.wrap IntKind.u64
          ((1 : Int) +
            Int.tmod
              (pDerive irk
                { data := #[(101 : UInt8), (112 : UInt8), (111 : UInt8), (99 : UInt8), (104 : UInt8)] : ByteArray }
                [IntKind.wrap IntKind.u64 epoch])
              (4194302 : Int))))).fst.Bits)⟩ : Address)
def pAt.dec (cs : List (AV El)) : Option (Int × Int) := popI .u64 cs fun a0 c0 => popI .i64 c0 fun a1 c1 => popE c1 (a0, a1)
def pAt.enc (x : Int × Int) : List (AV El) := [.v (.int .u64 x.1), .v (.int .i64 x.2)]
theorem pAt.dec_ok : ∀ cs x, pAt.dec cs = some x → Imp (S := S) cs (pAt.enc x) := by
  intro cs x h
  unfold pAt.dec at h
  obtain ⟨a0, c0, rfl, h0⟩ := popI_some (S := S) h
  obtain ⟨a1, c1, rfl, h1⟩ := popI_some (S := S) h0
  obtain ⟨rfl, rfl⟩ := popE_some (S := S) h1
  exact (.cons (.cons (.refl _)))
def pAt.nf (irk : Int) (epoch : Int) (K : AV El → List (AObj El) → Prop) : Prop := Ob (List.length (bytesI { data := #[(101 : UInt8), (112 : UInt8), (111 : UInt8), (99 : UInt8), (104 : UInt8)] : ByteArray }) ≤ (1099511627776 : Nat) ∧ List.length [IntKind.wrap IntKind.u64 epoch] ≤ (1099511627776 : Nat)) ∧ (Ob ((4194302 : Int) ≠ (0 : Int)) ∧ (K (.agg [.v (.int .i64 ((pMake irk (IntKind.wrap IntKind.u32 (IntKind.wrap IntKind.u64 ((1 : Int) + Int.tmod (pDerive irk { data := #[(101 : UInt8), (112 : UInt8), (111 : UInt8), (99 : UInt8), (104 : UInt8)] : ByteArray } [IntKind.wrap IntKind.u64 epoch]) (4194302 : Int))))).fst.Kind)), .v (.int .u64 ((pMake irk (IntKind.wrap IntKind.u32 (IntKind.wrap IntKind.u64 ((1 : Int) + Int.tmod (pDerive irk { data := #[(101 : UInt8), (112 : UInt8), (111 : UInt8), (99 : UInt8), (104 : UInt8)] : ByteArray } [IntKind.wrap IntKind.u64 epoch]) (4194302 : Int))))).fst.Bits))]) [.cells [.v (.int .i64 ((pMake irk (IntKind.wrap IntKind.u32 (IntKind.wrap IntKind.u64 ((1 : Int) + Int.tmod (pDerive irk { data := #[(101 : UInt8), (112 : UInt8), (111 : UInt8), (99 : UInt8), (104 : UInt8)] : ByteArray } [IntKind.wrap IntKind.u64 epoch]) (4194302 : Int))))).fst.Kind)), .v (.int .u64 ((pMake irk (IntKind.wrap IntKind.u32 (IntKind.wrap IntKind.u64 ((1 : Int) + Int.tmod (pDerive irk { data := #[(101 : UInt8), (112 : UInt8), (111 : UInt8), (99 : UInt8), (104 : UInt8)] : ByteArray } [IntKind.wrap IntKind.u64 epoch]) (4194302 : Int))))).fst.Bits))], .row 22 ([IntKind.wrap IntKind.u64 epoch] : List (El 22)), .cells [.v (.int .i64 ((pMake irk (IntKind.wrap IntKind.u32 (IntKind.wrap IntKind.u64 ((1 : Int) + Int.tmod (pDerive irk { data := #[(101 : UInt8), (112 : UInt8), (111 : UInt8), (99 : UInt8), (104 : UInt8)] : ByteArray } [IntKind.wrap IntKind.u64 epoch]) (4194302 : Int))))).fst.Kind)), .v (.int .u64 ((pMake irk (IntKind.wrap IntKind.u32 (IntKind.wrap IntKind.u64 ((1 : Int) + Int.tmod (pDerive irk { data := #[(101 : UInt8), (112 : UInt8), (111 : UInt8), (99 : UInt8), (104 : UInt8)] : ByteArray } [IntKind.wrap IntKind.u64 epoch]) (4194302 : Int))))).fst.Bits))]]))
theorem pAt.nf_ok (irk : Int) (epoch : Int) (K : AV El → List (AObj El) → Prop) : evFun (mkCxI Tryd.prog S tab_r9Make 0 false sum_fIdx) 4 20 [.v (.int .u64 irk), .v (.int .i64 epoch)] [] K = pAt.nf irk epoch K := by kernel_rfl
theorem pAt.key (irk : Int) (epoch : Int) (v : Address) (hv : v = pAt irk epoch) : pAt.nf irk epoch (fun r' H' => Gives r' H' (pAt.res v) (pAt.news v)) := by
  unfold pAt at hv
  unfold pAt.nf
  refine ⟨⟨by (try clear hv); (try clear q1 q2); (try clear hk); (first | omega | ((try simp only [decide_eq_true_eq, decide_eq_false_iff_not, Bool.not_eq_true, Bool.not_eq_false, Bool.and_eq_true, Bool.or_eq_true, Bool.not_not, cond_and, cond_or, List.length_append, List.length_cons, List.length_nil] at *); have := wu64s epoch; (first | omega | (intros; (try simp only [Bool.not_not, cond_and, cond_or, Bool.and_eq_true, decide_eq_true_eq] at *); (exact ⟨by decide, by simp⟩)) | (intros; (try simp only [Bool.not_not, cond_and, cond_or, Bool.and_eq_true, decide_eq_true_eq] at *); (exact ⟨by decide, by simp⟩)) | (intros; (try simp only [Bool.not_not, cond_and, cond_or, Bool.and_eq_true, decide_eq_true_eq] at *); (exact band_nn rfl _ _)) | (intros; (try simp only [Bool.not_not, cond_and, cond_or, Bool.and_eq_true, decide_eq_true_eq] at *); (exact (wu64s _).2.1)) | (intros; (try simp only [Bool.not_not, cond_and, cond_or, Bool.and_eq_true, decide_eq_true_eq] at *); (simp only [Bool.or_eq_false_iff, Bool.and_eq_false_iff, decide_eq_false_iff_not, decide_eq_true_eq, bne_iff_ne, beq_iff_eq, bne_eq_false_iff_eq, beq_eq_false_iff_ne, ne_eq, true_and] at *; omega)) | (intros; (try simp only [Bool.not_not, cond_and, cond_or, Bool.and_eq_true, decide_eq_true_eq] at *); (simp only [List.length_drop, List.length_take, List.length_append, List.length_cons, List.length_nil] at *; omega)) | (intros; omega) | (intros; simp only [Bool.not_not, cond_and, cond_or, Bool.and_eq_true, decide_eq_true_eq] at *; omega) | (intros; simp_all [Bool.not_not]; done))))⟩, ?_⟩
  refine ⟨⟨by (try clear hv); (try clear q1 q2); (try clear hk); (first | omega | ((try simp only [decide_eq_true_eq, decide_eq_false_iff_not, Bool.not_eq_true, Bool.not_eq_false, Bool.and_eq_true, Bool.or_eq_true, Bool.not_not, cond_and, cond_or, List.length_append, List.length_cons, List.length_nil] at *); (first | omega | (intros; (try simp only [Bool.not_not, cond_and, cond_or, Bool.and_eq_true, decide_eq_true_eq] at *); (exact ⟨by decide, by simp⟩)) | (intros; (try simp only [Bool.not_not, cond_and, cond_or, Bool.and_eq_true, decide_eq_true_eq] at *); (exact ⟨by decide, by simp⟩)) | (intros; (try simp only [Bool.not_not, cond_and, cond_or, Bool.and_eq_true, decide_eq_true_eq] at *); (exact band_nn rfl _ _)) | (intros; (try simp only [Bool.not_not, cond_and, cond_or, Bool.and_eq_true, decide_eq_true_eq] at *); (exact (wu64s _).2.1)) | (intros; (try simp only [Bool.not_not, cond_and, cond_or, Bool.and_eq_true, decide_eq_true_eq] at *); (simp only [Bool.or_eq_false_iff, Bool.and_eq_false_iff, decide_eq_false_iff_not, decide_eq_true_eq, bne_iff_ne, beq_iff_eq, bne_eq_false_iff_eq, beq_eq_false_iff_ne, ne_eq, true_and] at *; omega)) | (intros; (try simp only [Bool.not_not, cond_and, cond_or, Bool.and_eq_true, decide_eq_true_eq] at *); (simp only [List.length_drop, List.length_take, List.length_append, List.length_cons, List.length_nil] at *; omega)) | (intros; omega) | (intros; simp only [Bool.not_not, cond_and, cond_or, Bool.and_eq_true, decide_eq_true_eq] at *; omega) | (intros; simp_all [Bool.not_not]; done))))⟩, ?_⟩
  subst hv; exact And.intro (by kernel_rfl) (by kernel_rfl)
def pAt.ct : Ct El := ctOf pAt.dec (fun _ => []) (fun x => pAt.res (pAt x.1 x.2)) (fun x => pAt.news (pAt x.1 x.2))
theorem pAt.ok : CtOk (mkCx Tryd.prog S [] 0) 20 pAt.ct := ct_mk (C := (mkCxI Tryd.prog S tab_r9Make 0 false sum_fIdx)) (mkCxI_ok sigOk mixed tab_r9Make_ok 0 false sum_fIdx_ok) pAt.dec_ok (fun x => rfl) 4 (fun x _ => (pAt.nf_ok x.1 x.2 _).mpr (pAt.key x.1 x.2 _ rfl))
def tab_pAt : List (FuncId × Ct El) := (20, pAt.ct) :: tab_r9Make
theorem tab_pAt_ok : TabOk Tryd.prog S tab_pAt := ⟨pAt.ok, by kernel_rfl, tab_r9Make_ok⟩

/-! wireless/wirelessref09.At -/
def r9At.res (r : Address) : AV El := Address.av (r)
def r9At.news (r : Address) : List (AObj El) := []
def r9At (irk : Int) (epoch : Int) : Address := (⟨((r9Make irk
      (IntKind.wrap IntKind.u32
        (IntKind.wrap IntKind.u64
          ((1 : Int) +
            Int.tmod
              (r6Derive irk
                { data := #[(101 : UInt8), (112 : UInt8), (111 : UInt8), (99 : UInt8), (104 : UInt8)] : ByteArray }
                [IntKind.wrap IntKind.u64 epoch])
              (4194302 : Int))))).fst.Kind), ((r9Make irk
      (IntKind.wrap IntKind.u32
        (IntKind.wrap IntKind.u64
          ((1 : Int) +
            Int.tmod
              (r6Derive irk
                { data := #[(101 : UInt8), (112 : UInt8), (111 : UInt8), (99 : UInt8), (104 : UInt8)] : ByteArray }
                [IntKind.wrap IntKind.u64 epoch])
              (4194302 : Int))))).fst.Bits)⟩ : Address)
def r9At.dec (cs : List (AV El)) : Option (Int × Int) := popI .u64 cs fun a0 c0 => popI .i64 c0 fun a1 c1 => popE c1 (a0, a1)
def r9At.enc (x : Int × Int) : List (AV El) := [.v (.int .u64 x.1), .v (.int .i64 x.2)]
theorem r9At.dec_ok : ∀ cs x, r9At.dec cs = some x → Imp (S := S) cs (r9At.enc x) := by
  intro cs x h
  unfold r9At.dec at h
  obtain ⟨a0, c0, rfl, h0⟩ := popI_some (S := S) h
  obtain ⟨a1, c1, rfl, h1⟩ := popI_some (S := S) h0
  obtain ⟨rfl, rfl⟩ := popE_some (S := S) h1
  exact (.cons (.cons (.refl _)))
def r9At.nf (irk : Int) (epoch : Int) (K : AV El → List (AObj El) → Prop) : Prop := Ob (List.length (bytesI { data := #[(101 : UInt8), (112 : UInt8), (111 : UInt8), (99 : UInt8), (104 : UInt8)] : ByteArray }) ≤ (1099511627776 : Nat) ∧ List.length [IntKind.wrap IntKind.u64 epoch] ≤ (1099511627776 : Nat)) ∧ (Ob ((4194302 : Int) ≠ (0 : Int)) ∧ (K (.agg [.v (.int .i64 ((r9Make irk (IntKind.wrap IntKind.u32 (IntKind.wrap IntKind.u64 ((1 : Int) + Int.tmod (r6Derive irk { data := #[(101 : UInt8), (112 : UInt8), (111 : UInt8), (99 : UInt8), (104 : UInt8)] : ByteArray } [IntKind.wrap IntKind.u64 epoch]) (4194302 : Int))))).fst.Kind)), .v (.int .u64 ((r9Make irk (IntKind.wrap IntKind.u32 (IntKind.wrap IntKind.u64 ((1 : Int) + Int.tmod (r6Derive irk { data := #[(101 : UInt8), (112 : UInt8), (111 : UInt8), (99 : UInt8), (104 : UInt8)] : ByteArray } [IntKind.wrap IntKind.u64 epoch]) (4194302 : Int))))).fst.Bits))]) [.cells [.v (.int .i64 ((r9Make irk (IntKind.wrap IntKind.u32 (IntKind.wrap IntKind.u64 ((1 : Int) + Int.tmod (r6Derive irk { data := #[(101 : UInt8), (112 : UInt8), (111 : UInt8), (99 : UInt8), (104 : UInt8)] : ByteArray } [IntKind.wrap IntKind.u64 epoch]) (4194302 : Int))))).fst.Kind)), .v (.int .u64 ((r9Make irk (IntKind.wrap IntKind.u32 (IntKind.wrap IntKind.u64 ((1 : Int) + Int.tmod (r6Derive irk { data := #[(101 : UInt8), (112 : UInt8), (111 : UInt8), (99 : UInt8), (104 : UInt8)] : ByteArray } [IntKind.wrap IntKind.u64 epoch]) (4194302 : Int))))).fst.Bits))], .row 22 ([IntKind.wrap IntKind.u64 epoch] : List (El 22)), .cells [.v (.int .i64 ((r9Make irk (IntKind.wrap IntKind.u32 (IntKind.wrap IntKind.u64 ((1 : Int) + Int.tmod (r6Derive irk { data := #[(101 : UInt8), (112 : UInt8), (111 : UInt8), (99 : UInt8), (104 : UInt8)] : ByteArray } [IntKind.wrap IntKind.u64 epoch]) (4194302 : Int))))).fst.Kind)), .v (.int .u64 ((r9Make irk (IntKind.wrap IntKind.u32 (IntKind.wrap IntKind.u64 ((1 : Int) + Int.tmod (r6Derive irk { data := #[(101 : UInt8), (112 : UInt8), (111 : UInt8), (99 : UInt8), (104 : UInt8)] : ByteArray } [IntKind.wrap IntKind.u64 epoch]) (4194302 : Int))))).fst.Bits))]]))
theorem r9At.nf_ok (irk : Int) (epoch : Int) (K : AV El → List (AObj El) → Prop) : evFun (mkCxI Tryd.prog S tab_r9Make 0 false sum_fIdx) 4 21 [.v (.int .u64 irk), .v (.int .i64 epoch)] [] K = r9At.nf irk epoch K := by kernel_rfl
theorem r9At.key (irk : Int) (epoch : Int) (v : Address) (hv : v = r9At irk epoch) : r9At.nf irk epoch (fun r' H' => Gives r' H' (r9At.res v) (r9At.news v)) := by
  unfold r9At at hv
  unfold r9At.nf
  refine ⟨⟨by (try clear hv); (try clear q1 q2); (try clear hk); (first | omega | ((try simp only [decide_eq_true_eq, decide_eq_false_iff_not, Bool.not_eq_true, Bool.not_eq_false, Bool.and_eq_true, Bool.or_eq_true, Bool.not_not, cond_and, cond_or, List.length_append, List.length_cons, List.length_nil] at *); have := wu64s epoch; (first | omega | (intros; (try simp only [Bool.not_not, cond_and, cond_or, Bool.and_eq_true, decide_eq_true_eq] at *); (exact ⟨by decide, by simp⟩)) | (intros; (try simp only [Bool.not_not, cond_and, cond_or, Bool.and_eq_true, decide_eq_true_eq] at *); (exact ⟨by decide, by simp⟩)) | (intros; (try simp only [Bool.not_not, cond_and, cond_or, Bool.and_eq_true, decide_eq_true_eq] at *); (exact band_nn rfl _ _)) | (intros; (try simp only [Bool.not_not, cond_and, cond_or, Bool.and_eq_true, decide_eq_true_eq] at *); (exact (wu64s _).2.1)) | (intros; (try simp only [Bool.not_not, cond_and, cond_or, Bool.and_eq_true, decide_eq_true_eq] at *); (simp only [Bool.or_eq_false_iff, Bool.and_eq_false_iff, decide_eq_false_iff_not, decide_eq_true_eq, bne_iff_ne, beq_iff_eq, bne_eq_false_iff_eq, beq_eq_false_iff_ne, ne_eq, true_and] at *; omega)) | (intros; (try simp only [Bool.not_not, cond_and, cond_or, Bool.and_eq_true, decide_eq_true_eq] at *); (simp only [List.length_drop, List.length_take, List.length_append, List.length_cons, List.length_nil] at *; omega)) | (intros; omega) | (intros; simp only [Bool.not_not, cond_and, cond_or, Bool.and_eq_true, decide_eq_true_eq] at *; omega) | (intros; simp_all [Bool.not_not]; done))))⟩, ?_⟩
  refine ⟨⟨by (try clear hv); (try clear q1 q2); (try clear hk); (first | omega | ((try simp only [decide_eq_true_eq, decide_eq_false_iff_not, Bool.not_eq_true, Bool.not_eq_false, Bool.and_eq_true, Bool.or_eq_true, Bool.not_not, cond_and, cond_or, List.length_append, List.length_cons, List.length_nil] at *); (first | omega | (intros; (try simp only [Bool.not_not, cond_and, cond_or, Bool.and_eq_true, decide_eq_true_eq] at *); (exact ⟨by decide, by simp⟩)) | (intros; (try simp only [Bool.not_not, cond_and, cond_or, Bool.and_eq_true, decide_eq_true_eq] at *); (exact ⟨by decide, by simp⟩)) | (intros; (try simp only [Bool.not_not, cond_and, cond_or, Bool.and_eq_true, decide_eq_true_eq] at *); (exact band_nn rfl _ _)) | (intros; (try simp only [Bool.not_not, cond_and, cond_or, Bool.and_eq_true, decide_eq_true_eq] at *); (exact (wu64s _).2.1)) | (intros; (try simp only [Bool.not_not, cond_and, cond_or, Bool.and_eq_true, decide_eq_true_eq] at *); (simp only [Bool.or_eq_false_iff, Bool.and_eq_false_iff, decide_eq_false_iff_not, decide_eq_true_eq, bne_iff_ne, beq_iff_eq, bne_eq_false_iff_eq, beq_eq_false_iff_ne, ne_eq, true_and] at *; omega)) | (intros; (try simp only [Bool.not_not, cond_and, cond_or, Bool.and_eq_true, decide_eq_true_eq] at *); (simp only [List.length_drop, List.length_take, List.length_append, List.length_cons, List.length_nil] at *; omega)) | (intros; omega) | (intros; simp only [Bool.not_not, cond_and, cond_or, Bool.and_eq_true, decide_eq_true_eq] at *; omega) | (intros; simp_all [Bool.not_not]; done))))⟩, ?_⟩
  subst hv; exact And.intro (by kernel_rfl) (by kernel_rfl)
def r9At.ct : Ct El := ctOf r9At.dec (fun _ => []) (fun x => r9At.res (r9At x.1 x.2)) (fun x => r9At.news (r9At x.1 x.2))
theorem r9At.ok : CtOk (mkCx Tryd.prog S [] 0) 21 r9At.ct := ct_mk (C := (mkCxI Tryd.prog S tab_r9Make 0 false sum_fIdx)) (mkCxI_ok sigOk mixed tab_r9Make_ok 0 false sum_fIdx_ok) r9At.dec_ok (fun x => rfl) 4 (fun x _ => (r9At.nf_ok x.1 x.2 _).mpr (r9At.key x.1 x.2 _ rfl))
def tab_r9At : List (FuncId × Ct El) := (21, r9At.ct) :: tab_pAt
theorem tab_r9At_ok : TabOk Tryd.prog S tab_r9At := ⟨r9At.ok, by kernel_rfl, tab_pAt_ok⟩

end Go.Aw.W
