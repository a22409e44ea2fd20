/- Contracts of the seat (printed by ct.py). -/
import Derived.Test.YtppceadhdckpmaaDoorW21
set_option linter.unusedVariables false
set_option linter.unusedSimpArgs false
set_option maxRecDepth 20000
set_option maxHeartbeats 1000000
namespace Go.Aw.W
open Go Go.Aw Go.Proofs
attribute [local irreducible] evCode evFun evOps evDs evOne ctxK loopK loopB subC bodyC headS okH roundK
attribute [local irreducible] pFind r9Find
def advStart.res (r : Advertiser × Int) : AV El := .tup [Advertiser.av (r.1), .v (.int .i64 (r.2))]
def advStart.news (r : Advertiser × Int) : List (AObj El) := []
def advStart.L (e v : Advertiser × Int) : Prop := advStart.res e = advStart.res v ∧ advStart.news e = advStart.news v
def advStart (p : AdvParams) (p1 : Int) : Advertiser × Int := cond (advCheck p != 0) (((⟨⟨(0), (0), ⟨(0), (0)⟩, ⟨(0), (0)⟩, ([]), ([]), (0), ([]), ([]), (0)⟩, (false), (0), (0)⟩ : Advertiser), advCheck p)) (((advOwn { Params := p, On := true, Event := 0, Next := advMoment p1 : Advertiser }), 0))
def advStart.dec (cs : List (AV El)) : Option (AdvParams × Int) := popA AdvParams.dec cs fun a0 c0 => popI .i64 c0 fun a1 c1 => popE c1 (a0, a1)
def advStart.enc (x : AdvParams × Int) : List (AV El) := [AdvParams.av x.1, .v (.int .i64 x.2)]
theorem advStart.dec_ok : ∀ cs x, advStart.dec cs = some x → Imp (S := S) cs (advStart.enc x) := by
  intro cs x h
  unfold advStart.dec at h
  obtain ⟨a0, c0, h0, k0⟩ := popA_some (S := S) AdvParams.dec_ok h
  obtain ⟨a1, c1, rfl, h1⟩ := popI_some (S := S) h0
  obtain ⟨rfl, rfl⟩ := popE_some (S := S) h1
  exact (k0 _ (.cons (.refl _)))
def advStart.nf (p : AdvParams) (p1 : Int) (v : Advertiser × Int) : Prop := Ob (List.length p.Data ≤ (140737488355328 : Nat) ∧ List.length p.Scan ≤ (140737488355328 : Nat) ∧ List.length p.Accept ≤ (4611686018427 : Nat) ∧ List.length p.Identities ≤ (4611686018427 : Nat)) ∧ (cond (advCheck p != 0) (advStart.L (((⟨⟨(0), (0), ⟨(0), (0)⟩, ⟨(0), (0)⟩, ([]), ([]), (0), ([]), ([]), (0)⟩, (false), (0), (0)⟩ : Advertiser), advCheck p)) v) (Ob (List.length p.Data ≤ (140737488355328 : Nat) ∧ List.length p.Scan ≤ (140737488355328 : Nat) ∧ List.length p.Accept ≤ (4611686018427 : Nat) ∧ List.length p.Identities ≤ (4611686018427 : Nat)) ∧ (advStart.L (((advOwn { Params := p, On := true, Event := 0, Next := advMoment p1 : Advertiser }), 0)) v)))
theorem advStart.nf_ok (p : AdvParams) (p1 : Int) (v : Advertiser × Int) : evFun (mkCxI Tryd.prog S tab_r21Start 0 false sum_fIdx) 4 16 [AdvParams.av p, .v (.int .i64 p1)] [] (fun r' H' => Gives r' H' (advStart.res v) (advStart.news v)) = advStart.nf p p1 v := by kernel_rfl
theorem advStart.key (p : AdvParams) (p1 : Int) (hp : p.Data.length ≤ 140737488355328 ∧ p.Scan.length ≤ 140737488355328 ∧ p.Accept.length ≤ 4611686018427 ∧ p.Identities.length ≤ 4611686018427) (v : Advertiser × Int) (hv : v = advStart p p1) : advStart.nf p p1 v := by
  unfold advStart at hv
  unfold advStart.nf
  refine ⟨⟨?_⟩, ?_⟩; rotate_left
  revert hv; refine by_cond2 (fun hb hv => ?_) (fun hb hv => ?_)
  subst hv; exact ⟨rfl, rfl⟩
  refine ⟨⟨?_⟩, ?_⟩; rotate_left
  subst hv; exact ⟨rfl, rfl⟩
  all_goals ((try clear hv); (try clear q1 q2); (try clear hk); (first | omega | ((try simp only [decide_eq_true_eq, decide_eq_false_iff_not, Bool.not_eq_true, Bool.not_eq_false, Bool.and_eq_true, Bool.or_eq_true, Bool.not_not, cond_and, cond_or, List.length_append, List.length_cons, List.length_nil] at *); (first | done | ((first | omega | (intros; (try simp only [Bool.not_not, cond_and, cond_or, Bool.and_eq_true, decide_eq_true_eq] at *); (refine ⟨?_, pFind_lt _ _⟩; (first | omega | (simp_all; done)))) | (intros; (try simp only [Bool.not_not, cond_and, cond_or, Bool.and_eq_true, decide_eq_true_eq] at *); (refine ⟨?_, r9Find_lt _ _⟩; (first | omega | (simp_all; done)))) | (intros; (try simp only [Bool.not_not, cond_and, cond_or, Bool.and_eq_true, decide_eq_true_eq] at *); (exact ⟨by decide, by simp⟩)) | (intros; (try simp only [Bool.not_not, cond_and, cond_or, Bool.and_eq_true, decide_eq_true_eq] at *); (exact band_nn rfl _ _)) | (intros; (try simp only [Bool.not_not, cond_and, cond_or, Bool.and_eq_true, decide_eq_true_eq] at *); (exact (wu64s _).2.1)) | (intros; (try simp only [Bool.not_not, cond_and, cond_or, Bool.and_eq_true, decide_eq_true_eq] at *); (simp only [Bool.or_eq_false_iff, Bool.and_eq_false_iff, decide_eq_false_iff_not, decide_eq_true_eq, bne_iff_ne, beq_iff_eq, bne_eq_false_iff_eq, beq_eq_false_iff_ne, ne_eq, true_and] at *; omega)) | (intros; (try simp only [Bool.not_not, cond_and, cond_or, Bool.and_eq_true, decide_eq_true_eq] at *); (simp only [List.length_drop, List.length_take, List.length_append, List.length_cons, List.length_nil] at *; omega)) | (intros; omega) | (intros; simp only [Bool.not_not, cond_and, cond_or, Bool.and_eq_true, decide_eq_true_eq] at *; omega) | (intros; simp_all [Bool.not_not]; done)))))))
def advStart.ct : Ct El := ctOf advStart.dec (fun x => [x.1.Data.length ≤ 140737488355328 ∧ x.1.Scan.length ≤ 140737488355328 ∧ x.1.Accept.length ≤ 4611686018427 ∧ x.1.Identities.length ≤ 4611686018427]) (fun x => advStart.res (advStart x.1 x.2)) (fun x => advStart.news (advStart x.1 x.2))
theorem advStart.ok : CtOk (mkCx Tryd.prog S [] 0) 16 advStart.ct := ct_mk (C := (mkCxI Tryd.prog S tab_r21Start 0 false sum_fIdx)) (mkCxI_ok sigOk mixed tab_r21Start_ok 0 false sum_fIdx_ok) advStart.dec_ok (fun x => rfl) 4 (fun x hp => (advStart.nf_ok x.1 x.2 _).mpr (advStart.key x.1 x.2 (hp _ (List.mem_singleton.2 rfl)) _ rfl))
def tab_advStart : List (FuncId × Ct El) := (16, advStart.ct) :: tab_r21Start
theorem tab_advStart_ok : TabOk Tryd.prog S tab_advStart := ⟨advStart.ok, by kernel_rfl, tab_r21Start_ok⟩
def r21Same.res (r : Bool) : AV El := .v (.bool (r))
def r21Same.news (r : Bool) : List (AObj El) := []
def r21Same.L (e v : Bool) : Prop := r21Same.res e = r21Same.res v ∧ r21Same.news e = r21Same.news v
def r21Same (a : Advertiser) (b : Advertiser) : Bool := cond (bif bif bif bif bif a.Params.Kind != b.Params.Kind then true else a.Params.Interval != b.Params.Interval then true else !(a.Params.Own.Kind == b.Params.Own.Kind && a.Params.Own.Bits == b.Params.Own.Bits) then true else !(a.Params.Target.Kind == b.Params.Target.Kind && a.Params.Target.Bits == b.Params.Target.Bits) then true else a.Params.Policy != b.Params.Policy then true else a.Params.Seed != b.Params.Seed) (false) (cond (bif bif bif !r2Same a.Params.Data b.Params.Data then true else !r2Same a.Params.Scan b.Params.Scan then true else !r20Same a.Params.Accept b.Params.Accept then true else !r21SameIds a.Params.Identities b.Params.Identities) (false) (bif bif a.On == b.On then a.Event == b.Event else false then a.Next == b.Next else false))
def r21Same.dec (cs : List (AV El)) : Option (Advertiser × Advertiser) := popA Advertiser.dec cs fun a0 c0 => popA Advertiser.dec c0 fun a1 c1 => popE c1 (a0, a1)
def r21Same.enc (x : Advertiser × Advertiser) : List (AV El) := [Advertiser.av x.1, Advertiser.av x.2]
theorem r21Same.dec_ok : ∀ cs x, r21Same.dec cs = some x → Imp (S := S) cs (r21Same.enc x) := by
  intro cs x h
  unfold r21Same.dec at h
  obtain ⟨a0, c0, h0, k0⟩ := popA_some (S := S) Advertiser.dec_ok h
  obtain ⟨a1, c1, h1, k1⟩ := popA_some (S := S) Advertiser.dec_ok h0
  obtain ⟨rfl, rfl⟩ := popE_some (S := S) h1
  exact (k0 _ (k1 _ (.refl _)))
def r21Same_nf_g1 (a : Advertiser) (b : Advertiser) : Bool := bif (a.Params.Kind != b.Params.Kind) then true else (a.Params.Interval != b.Params.Interval)
def r21Same_nf_g2 (a : Advertiser) (b : Advertiser) : Bool := a.Params.Own.Kind == b.Params.Own.Kind && a.Params.Own.Bits == b.Params.Own.Bits
def r21Same_nf_g3 (a : Advertiser) (b : Advertiser) : Bool := bif (r21Same_nf_g1 a b) then true else (!(r21Same_nf_g2 a b))
def r21Same_nf_g4 (a : Advertiser) (b : Advertiser) : Bool := a.Params.Target.Kind == b.Params.Target.Kind && a.Params.Target.Bits == b.Params.Target.Bits
def r21Same_nf_g5 (a : Advertiser) (b : Advertiser) : Bool := bif (r21Same_nf_g3 a b) then true else (!(r21Same_nf_g4 a b))
def r21Same_nf_g6 (a : Advertiser) (b : Advertiser) : Bool := bif (r21Same_nf_g5 a b) then true else (a.Params.Policy != b.Params.Policy)
def r21Same_nf_g7 (a : Advertiser) (b : Advertiser) : Bool := bif (!r2Same a.Params.Data b.Params.Data) then true else (!r2Same a.Params.Scan b.Params.Scan)
def r21Same_nf_g8 (a : Advertiser) (b : Advertiser) : Bool := bif (r21Same_nf_g7 a b) then true else (!r20Same a.Params.Accept b.Params.Accept)
def r21Same.nf (a : Advertiser) (b : Advertiser) (v : Bool) : Prop := Ob (o3 (!a.Params.Kind != b.Params.Kind)) ∧ (Ob (o3 (!a.Params.Kind != b.Params.Kind)) ∧ (Ob (o3 (!a.Params.Kind != b.Params.Kind)) ∧ (Ob (o3 (!a.Params.Kind != b.Params.Kind)) ∧ (Ob (on (a.Params.Kind != b.Params.Kind)) ∧ (Ob (o3 (!(r21Same_nf_g1 a b))) ∧ (Ob (o3 (!(r21Same_nf_g1 a b))) ∧ (Ob (o3 (!(r21Same_nf_g1 a b))) ∧ (Ob (o3 (!(r21Same_nf_g1 a b))) ∧ (Ob (on (r21Same_nf_g1 a b)) ∧ (Ob (o3 (!(r21Same_nf_g3 a b))) ∧ (Ob (o3 (!(r21Same_nf_g3 a b))) ∧ (Ob (o3 (!(r21Same_nf_g3 a b))) ∧ (Ob (o3 (!(r21Same_nf_g3 a b))) ∧ (Ob (on (r21Same_nf_g3 a b)) ∧ (Ob (o3 (!(r21Same_nf_g5 a b))) ∧ (Ob (o3 (!(r21Same_nf_g5 a b))) ∧ (Ob (o3 (!(r21Same_nf_g5 a b))) ∧ (Ob (o3 (!(r21Same_nf_g5 a b))) ∧ (Ob (on (r21Same_nf_g5 a b)) ∧ (Ob (o3 (!(r21Same_nf_g6 a b))) ∧ (Ob (o3 (!(r21Same_nf_g6 a b))) ∧ (Ob (o3 (!(r21Same_nf_g6 a b))) ∧ (Ob (o3 (!(r21Same_nf_g6 a b))) ∧ (Ob (on (r21Same_nf_g6 a b)) ∧ (cond (bif bif bif bif bif a.Params.Kind != b.Params.Kind then true else a.Params.Interval != b.Params.Interval then true else !(a.Params.Own.Kind == b.Params.Own.Kind && a.Params.Own.Bits == b.Params.Own.Bits) then true else !(a.Params.Target.Kind == b.Params.Target.Kind && a.Params.Target.Bits == b.Params.Target.Bits) then true else a.Params.Policy != b.Params.Policy then true else a.Params.Seed != b.Params.Seed) (r21Same.L (false) v) (Ob (o3 (!!r2Same a.Params.Data b.Params.Data)) ∧ (Ob (o3 (!!r2Same a.Params.Data b.Params.Data)) ∧ (Ob (o3 (!!r2Same a.Params.Data b.Params.Data)) ∧ (Ob (o3 (!!r2Same a.Params.Data b.Params.Data)) ∧ (Ob (o3 (!!r2Same a.Params.Data b.Params.Data)) ∧ (Ob (on (!r2Same a.Params.Data b.Params.Data)) ∧ (Ob (o3 (!(r21Same_nf_g7 a b))) ∧ (Ob (o3 (!(r21Same_nf_g7 a b))) ∧ (Ob (o3 (!(r21Same_nf_g7 a b))) ∧ (Ob (o3 (!(r21Same_nf_g7 a b))) ∧ (Ob (o3 (!(r21Same_nf_g7 a b))) ∧ (Ob (on (r21Same_nf_g7 a b)) ∧ (Ob (o3 (!(r21Same_nf_g8 a b))) ∧ (Ob (o3 (!(r21Same_nf_g8 a b))) ∧ (Ob (o3 (!(r21Same_nf_g8 a b))) ∧ (Ob (o3 (!(r21Same_nf_g8 a b))) ∧ (Ob (o3 (!(r21Same_nf_g8 a b))) ∧ (Ob (on (r21Same_nf_g8 a b)) ∧ (cond (bif bif bif !r2Same a.Params.Data b.Params.Data then true else !r2Same a.Params.Scan b.Params.Scan then true else !r20Same a.Params.Accept b.Params.Accept then true else !r21SameIds a.Params.Identities b.Params.Identities) (r21Same.L (false) v) (Ob (o3 (a.On == b.On)) ∧ (Ob (o3 (a.On == b.On)) ∧ (Ob (o3 (a.On == b.On)) ∧ (Ob (o3 (a.On == b.On)) ∧ (Ob (o2 (a.On == b.On)) ∧ (Ob (o3 (bif a.On == b.On then a.Event == b.Event else false)) ∧ (Ob (o3 (bif a.On == b.On then a.Event == b.Event else false)) ∧ (Ob (o3 (bif a.On == b.On then a.Event == b.Event else false)) ∧ (Ob (o3 (bif a.On == b.On then a.Event == b.Event else false)) ∧ (Ob (o2 (bif a.On == b.On then a.Event == b.Event else false)) ∧ (r21Same.L (bif bif a.On == b.On then a.Event == b.Event else false then a.Next == b.Next else false) v)))))))))))))))))))))))))))))))))))))))))))))))))))))))
theorem r21Same.nf_ok (a : Advertiser) (b : Advertiser) (v : Bool) : evFun (mkCxI Tryd.prog S tab_r21Start 0 false sum_fIdx) 4 19 [Advertiser.av a, Advertiser.av b] [] (fun r' H' => Gives r' H' (r21Same.res v) (r21Same.news v)) = r21Same.nf a b v := by kernel_rfl
theorem r21Same.key (a : Advertiser) (b : Advertiser) (v : Bool) (hv : v = r21Same a b) : r21Same.nf a b v := by
  unfold r21Same at hv
  unfold r21Same.nf
  refine ⟨⟨o3_ok _⟩, ?_⟩
  refine ⟨⟨o3_ok _⟩, ?_⟩
  refine ⟨⟨o3_ok _⟩, ?_⟩
  refine ⟨⟨o3_ok _⟩, ?_⟩
  refine ⟨⟨on_ok _⟩, ?_⟩
  refine ⟨⟨o3_ok _⟩, ?_⟩
  refine ⟨⟨o3_ok _⟩, ?_⟩
  refine ⟨⟨o3_ok _⟩, ?_⟩
  refine ⟨⟨o3_ok _⟩, ?_⟩
  refine ⟨⟨on_ok _⟩, ?_⟩
  refine ⟨⟨o3_ok _⟩, ?_⟩
  refine ⟨⟨o3_ok _⟩, ?_⟩
  refine ⟨⟨o3_ok _⟩, ?_⟩
  refine ⟨⟨o3_ok _⟩, ?_⟩
  refine ⟨⟨on_ok _⟩, ?_⟩
  refine ⟨⟨o3_ok _⟩, ?_⟩
  refine ⟨⟨o3_ok _⟩, ?_⟩
  refine ⟨⟨o3_ok _⟩, ?_⟩
  refine ⟨⟨o3_ok _⟩, ?_⟩
  refine ⟨⟨on_ok _⟩, ?_⟩
  refine ⟨⟨o3_ok _⟩, ?_⟩
  refine ⟨⟨o3_ok _⟩, ?_⟩
  refine ⟨⟨o3_ok _⟩, ?_⟩
  refine ⟨⟨o3_ok _⟩, ?_⟩
  refine ⟨⟨on_ok _⟩, ?_⟩
  revert hv; refine by_cond2 (fun hb hv => ?_) (fun hb hv => ?_)
  · subst hv; exact ⟨rfl, rfl⟩
  · refine ⟨⟨o3_ok _⟩, ?_⟩
    refine ⟨⟨o3_ok _⟩, ?_⟩
    refine ⟨⟨o3_ok _⟩, ?_⟩
    refine ⟨⟨o3_ok _⟩, ?_⟩
    refine ⟨⟨o3_ok _⟩, ?_⟩
    refine ⟨⟨on_ok _⟩, ?_⟩
    refine ⟨⟨o3_ok _⟩, ?_⟩
    refine ⟨⟨o3_ok _⟩, ?_⟩
    refine ⟨⟨o3_ok _⟩, ?_⟩
    refine ⟨⟨o3_ok _⟩, ?_⟩
    refine ⟨⟨o3_ok _⟩, ?_⟩
    refine ⟨⟨on_ok _⟩, ?_⟩
    refine ⟨⟨o3_ok _⟩, ?_⟩
    refine ⟨⟨o3_ok _⟩, ?_⟩
    refine ⟨⟨o3_ok _⟩, ?_⟩
    refine ⟨⟨o3_ok _⟩, ?_⟩
    refine ⟨⟨o3_ok _⟩, ?_⟩
    refine ⟨⟨on_ok _⟩, ?_⟩
    revert hv; refine by_cond2 (fun hb hv => ?_) (fun hb hv => ?_)
    · subst hv; exact ⟨rfl, rfl⟩
    · refine ⟨⟨o3_ok _⟩, ?_⟩
      refine ⟨⟨o3_ok _⟩, ?_⟩
      refine ⟨⟨o3_ok _⟩, ?_⟩
      refine ⟨⟨o3_ok _⟩, ?_⟩
      refine ⟨⟨o2_ok _⟩, ?_⟩
      refine ⟨⟨o3_ok _⟩, ?_⟩
      refine ⟨⟨o3_ok _⟩, ?_⟩
      refine ⟨⟨o3_ok _⟩, ?_⟩
      refine ⟨⟨o3_ok _⟩, ?_⟩
      refine ⟨⟨o2_ok _⟩, ?_⟩
      subst hv; exact ⟨rfl, rfl⟩
def r21Same.ct : Ct El := ctOf r21Same.dec (fun _ => []) (fun x => r21Same.res (r21Same x.1 x.2)) (fun x => r21Same.news (r21Same x.1 x.2))
theorem r21Same.ok : CtOk (mkCx Tryd.prog S [] 0) 19 r21Same.ct := ct_mk (C := (mkCxI Tryd.prog S tab_r21Start 0 false sum_fIdx)) (mkCxI_ok sigOk mixed tab_r21Start_ok 0 false sum_fIdx_ok) r21Same.dec_ok (fun x => rfl) 4 (fun x _ => (r21Same.nf_ok x.1 x.2 _).mpr (r21Same.key x.1 x.2 _ rfl))
def tab_r21Same : List (FuncId × Ct El) := (19, r21Same.ct) :: tab_advStart
theorem tab_r21Same_ok : TabOk Tryd.prog S tab_r21Same := ⟨r21Same.ok, by kernel_rfl, tab_advStart_ok⟩
def r21Accepts.res (r : Bool) : AV El := .v (.bool (r))
def r21Accepts.news (r : Bool) : List (AObj El) := []
def r21Accepts.L (e v : Bool) : Prop := r21Accepts.res e = r21Accepts.res v ∧ r21Accepts.news e = r21Accepts.news v
def r21Accepts (p : AdvParams) (sender : Address) : Bool := cond (p.Kind == 0) (r20Allows p.Policy 5 p.Accept p.Identities sender) (cond (p.Kind != 1) (false) (bif sender.Kind == p.Target.Kind && sender.Bits == p.Target.Bits then true else bif decide (0 ≤ r9Find p.Identities sender) then (List.getD p.Identities (Int.toNat (r9Find p.Identities sender)) Identity.zero).Address.Kind == p.Target.Kind && (List.getD p.Identities (Int.toNat (r9Find p.Identities sender)) Identity.zero).Address.Bits == p.Target.Bits else false))
def r21Accepts.dec (cs : List (AV El)) : Option (AdvParams × Address) := popA AdvParams.dec cs fun a0 c0 => popA Address.dec c0 fun a1 c1 => popE c1 (a0, a1)
def r21Accepts.enc (x : AdvParams × Address) : List (AV El) := [AdvParams.av x.1, Address.av x.2]
theorem r21Accepts.dec_ok : ∀ cs x, r21Accepts.dec cs = some x → Imp (S := S) cs (r21Accepts.enc x) := by
  intro cs x h
  unfold r21Accepts.dec at h
  obtain ⟨a0, c0, h0, k0⟩ := popA_some (S := S) AdvParams.dec_ok h
  obtain ⟨a1, c1, h1, k1⟩ := popA_some (S := S) Address.dec_ok h0
  obtain ⟨rfl, rfl⟩ := popE_some (S := S) h1
  exact (k0 _ (k1 _ (.refl _)))
def r21Accepts.nf (p : AdvParams) (sender : Address) (v : Bool) : Prop := cond (p.Kind == 0) (r21Accepts.L (r20Allows p.Policy 5 p.Accept p.Identities sender) v) (cond (p.Kind != 1) (r21Accepts.L (false) v) (Ob (o3 (!(sender.Kind == p.Target.Kind && sender.Bits == p.Target.Bits))) ∧ (Ob (o3 (!(sender.Kind == p.Target.Kind && sender.Bits == p.Target.Bits))) ∧ (Ob (o3 (!(sender.Kind == p.Target.Kind && sender.Bits == p.Target.Bits) && decide (0 ≤ r9Find p.Identities sender))) ∧ (Ob (o3 (!(sender.Kind == p.Target.Kind && sender.Bits == p.Target.Bits) && decide (0 ≤ r9Find p.Identities sender))) ∧ (Ob (o3 (!(sender.Kind == p.Target.Kind && sender.Bits == p.Target.Bits) && decide (0 ≤ r9Find p.Identities sender))) ∧ (Ob ((!(sender.Kind == p.Target.Kind && sender.Bits == p.Target.Bits) && decide (0 ≤ r9Find p.Identities sender)) = true → 0 ≤ r9Find p.Identities sender ∧ r9Find p.Identities sender < (↑(List.length p.Identities) : Int)) ∧ (Ob (o3 (!(sender.Kind == p.Target.Kind && sender.Bits == p.Target.Bits) && decide (0 ≤ r9Find p.Identities sender))) ∧ (Ob (o3 (!(sender.Kind == p.Target.Kind && sender.Bits == p.Target.Bits) && decide (0 ≤ r9Find p.Identities sender))) ∧ (Ob (o3 (!(sender.Kind == p.Target.Kind && sender.Bits == p.Target.Bits) && decide (0 ≤ r9Find p.Identities sender))) ∧ (Ob (o3 (!(sender.Kind == p.Target.Kind && sender.Bits == p.Target.Bits) && decide (0 ≤ r9Find p.Identities sender))) ∧ (Ob (o3 (!(sender.Kind == p.Target.Kind && sender.Bits == p.Target.Bits) && decide (0 ≤ r9Find p.Identities sender))) ∧ (Ob (o2 (!(sender.Kind == p.Target.Kind && sender.Bits == p.Target.Bits))) ∧ (Ob ((!(sender.Kind == p.Target.Kind && sender.Bits == p.Target.Bits)) = true → decide (0 ≤ r9Find p.Identities sender) = true → (!(sender.Kind == p.Target.Kind && sender.Bits == p.Target.Bits) && decide (0 ≤ r9Find p.Identities sender)) = true) ∧ (Ob (on (sender.Kind == p.Target.Kind && sender.Bits == p.Target.Bits)) ∧ (r21Accepts.L (bif sender.Kind == p.Target.Kind && sender.Bits == p.Target.Bits then true else bif decide (0 ≤ r9Find p.Identities sender) then (List.getD p.Identities (Int.toNat (r9Find p.Identities sender)) Identity.zero).Address.Kind == p.Target.Kind && (List.getD p.Identities (Int.toNat (r9Find p.Identities sender)) Identity.zero).Address.Bits == p.Target.Bits else false) v))))))))))))))))
theorem r21Accepts.nf_ok (p : AdvParams) (sender : Address) (v : Bool) : evFun (mkCxI Tryd.prog S tab_r21Start 0 false sum_fIdx) 4 66 [AdvParams.av p, Address.av sender] [] (fun r' H' => Gives r' H' (r21Accepts.res v) (r21Accepts.news v)) = r21Accepts.nf p sender v := by kernel_rfl
theorem r21Accepts.key (p : AdvParams) (sender : Address) (v : Bool) (hv : v = r21Accepts p sender) : r21Accepts.nf p sender v := by
  unfold r21Accepts at hv
  unfold r21Accepts.nf
  revert hv; refine by_cond2 (fun hb hv => ?_) (fun hb hv => ?_)
  subst hv; exact ⟨rfl, rfl⟩
  revert hv; refine by_cond2 (fun hb hv => ?_) (fun hb hv => ?_)
  subst hv; exact ⟨rfl, rfl⟩
  refine ⟨⟨o3_ok _⟩, ?_⟩
  refine ⟨⟨o3_ok _⟩, ?_⟩
  refine ⟨⟨o3_ok _⟩, ?_⟩
  refine ⟨⟨o3_ok _⟩, ?_⟩
  refine ⟨⟨o3_ok _⟩, ?_⟩
  refine ⟨⟨?_⟩, ?_⟩; rotate_left
  refine ⟨⟨o3_ok _⟩, ?_⟩
  refine ⟨⟨o3_ok _⟩, ?_⟩
  refine ⟨⟨o3_ok _⟩, ?_⟩
  refine ⟨⟨o3_ok _⟩, ?_⟩
  refine ⟨⟨o3_ok _⟩, ?_⟩
  refine ⟨⟨o2_ok _⟩, ?_⟩
  refine ⟨⟨?_⟩, ?_⟩; rotate_left
  refine ⟨⟨on_ok _⟩, ?_⟩
  subst hv; exact ⟨rfl, rfl⟩
  all_goals ((try clear hv); (try clear q1 q2); (try clear hk); (first | omega | ((try simp only [decide_eq_true_eq, decide_eq_false_iff_not, Bool.not_eq_true, Bool.not_eq_false, Bool.and_eq_true, Bool.or_eq_true, Bool.not_not, cond_and, cond_or, List.length_append, List.length_cons, List.length_nil] at *); (first | done | ((first | omega | (intros; (try simp only [Bool.not_not, cond_and, cond_or, Bool.and_eq_true, decide_eq_true_eq] at *); (refine ⟨?_, pFind_lt _ _⟩; (first | omega | (simp_all; done)))) | (intros; (try simp only [Bool.not_not, cond_and, cond_or, Bool.and_eq_true, decide_eq_true_eq] at *); (refine ⟨?_, r9Find_lt _ _⟩; (first | omega | (simp_all; done)))) | (intros; (try simp only [Bool.not_not, cond_and, cond_or, Bool.and_eq_true, decide_eq_true_eq] at *); (exact ⟨by decide, by simp⟩)) | (intros; (try simp only [Bool.not_not, cond_and, cond_or, Bool.and_eq_true, decide_eq_true_eq] at *); (exact band_nn rfl _ _)) | (intros; (try simp only [Bool.not_not, cond_and, cond_or, Bool.and_eq_true, decide_eq_true_eq] at *); (exact (wu64s _).2.1)) | (intros; (try simp only [Bool.not_not, cond_and, cond_or, Bool.and_eq_true, decide_eq_true_eq] at *); (simp only [Bool.or_eq_false_iff, Bool.and_eq_false_iff, decide_eq_false_iff_not, decide_eq_true_eq, bne_iff_ne, beq_iff_eq, bne_eq_false_iff_eq, beq_eq_false_iff_ne, ne_eq, true_and] at *; omega)) | (intros; (try simp only [Bool.not_not, cond_and, cond_or, Bool.and_eq_true, decide_eq_true_eq] at *); (simp only [List.length_drop, List.length_take, List.length_append, List.length_cons, List.length_nil] at *; omega)) | (intros; omega) | (intros; simp only [Bool.not_not, cond_and, cond_or, Bool.and_eq_true, decide_eq_true_eq] at *; omega) | (intros; simp_all [Bool.not_not]; done)))))))
def r21Accepts.ct : Ct El := ctOf r21Accepts.dec (fun _ => []) (fun x => r21Accepts.res (r21Accepts x.1 x.2)) (fun x => r21Accepts.news (r21Accepts x.1 x.2))
theorem r21Accepts.ok : CtOk (mkCx Tryd.prog S [] 0) 66 r21Accepts.ct := ct_mk (C := (mkCxI Tryd.prog S tab_r21Start 0 false sum_fIdx)) (mkCxI_ok sigOk mixed tab_r21Start_ok 0 false sum_fIdx_ok) r21Accepts.dec_ok (fun x => rfl) 4 (fun x _ => (r21Accepts.nf_ok x.1 x.2 _).mpr (r21Accepts.key x.1 x.2 _ rfl))
def tab_r21Accepts : List (FuncId × Ct El) := (66, r21Accepts.ct) :: tab_r21Same
theorem tab_r21Accepts_ok : TabOk Tryd.prog S tab_r21Accepts := ⟨r21Accepts.ok, by kernel_rfl, tab_r21Same_ok⟩
def connects.res (r : Bool) : AV El := .v (.bool (r))
def connects.news (r : Bool) : List (AObj El) := []
def connects.L (e v : Bool) : Prop := connects.res e = connects.res v ∧ connects.news e = connects.news v
def connects (p : AdvParams) (p1 : Address) : Bool := cond (p.Kind == 0) (accAllows p.Policy 5 p.Accept p.Identities p1) (cond (p.Kind == 1) (bif p1.Kind == p.Target.Kind && p1.Bits == p.Target.Bits then true else bif decide (0 ≤ pFind p.Identities p1) then (List.getD p.Identities (Int.toNat (pFind p.Identities p1)) Identity.zero).Address.Kind == p.Target.Kind && (List.getD p.Identities (Int.toNat (pFind p.Identities p1)) Identity.zero).Address.Bits == p.Target.Bits else false) (false))
def connects.dec (cs : List (AV El)) : Option (AdvParams × Address) := popA AdvParams.dec cs fun a0 c0 => popA Address.dec c0 fun a1 c1 => popE c1 (a0, a1)
def connects.enc (x : AdvParams × Address) : List (AV El) := [AdvParams.av x.1, Address.av x.2]
theorem connects.dec_ok : ∀ cs x, connects.dec cs = some x → Imp (S := S) cs (connects.enc x) := by
  intro cs x h
  unfold connects.dec at h
  obtain ⟨a0, c0, h0, k0⟩ := popA_some (S := S) AdvParams.dec_ok h
  obtain ⟨a1, c1, h1, k1⟩ := popA_some (S := S) Address.dec_ok h0
  obtain ⟨rfl, rfl⟩ := popE_some (S := S) h1
  exact (k0 _ (k1 _ (.refl _)))
def connects.nf (p : AdvParams) (p1 : Address) (v : Bool) : Prop := cond (p.Kind == 0) (connects.L (accAllows p.Policy 5 p.Accept p.Identities p1) v) (cond (p.Kind == 1) (Ob (o3 (!(p1.Kind == p.Target.Kind && p1.Bits == p.Target.Bits))) ∧ (Ob (o3 (!(p1.Kind == p.Target.Kind && p1.Bits == p.Target.Bits))) ∧ (Ob (o3 (!(p1.Kind == p.Target.Kind && p1.Bits == p.Target.Bits) && decide (0 ≤ pFind p.Identities p1))) ∧ (Ob (o3 (!(p1.Kind == p.Target.Kind && p1.Bits == p.Target.Bits) && decide (0 ≤ pFind p.Identities p1))) ∧ (Ob (o3 (!(p1.Kind == p.Target.Kind && p1.Bits == p.Target.Bits) && decide (0 ≤ pFind p.Identities p1))) ∧ (Ob ((!(p1.Kind == p.Target.Kind && p1.Bits == p.Target.Bits) && decide (0 ≤ pFind p.Identities p1)) = true → 0 ≤ pFind p.Identities p1 ∧ pFind p.Identities p1 < (↑(List.length p.Identities) : Int)) ∧ (Ob (o3 (!(p1.Kind == p.Target.Kind && p1.Bits == p.Target.Bits) && decide (0 ≤ pFind p.Identities p1))) ∧ (Ob (o3 (!(p1.Kind == p.Target.Kind && p1.Bits == p.Target.Bits) && decide (0 ≤ pFind p.Identities p1))) ∧ (Ob (o3 (!(p1.Kind == p.Target.Kind && p1.Bits == p.Target.Bits) && decide (0 ≤ pFind p.Identities p1))) ∧ (Ob (o3 (!(p1.Kind == p.Target.Kind && p1.Bits == p.Target.Bits) && decide (0 ≤ pFind p.Identities p1))) ∧ (Ob (o3 (!(p1.Kind == p.Target.Kind && p1.Bits == p.Target.Bits) && decide (0 ≤ pFind p.Identities p1))) ∧ (Ob (o2 (!(p1.Kind == p.Target.Kind && p1.Bits == p.Target.Bits))) ∧ (Ob ((!(p1.Kind == p.Target.Kind && p1.Bits == p.Target.Bits)) = true → decide (0 ≤ pFind p.Identities p1) = true → (!(p1.Kind == p.Target.Kind && p1.Bits == p.Target.Bits) && decide (0 ≤ pFind p.Identities p1)) = true) ∧ (Ob (on (p1.Kind == p.Target.Kind && p1.Bits == p.Target.Bits)) ∧ (connects.L (bif p1.Kind == p.Target.Kind && p1.Bits == p.Target.Bits then true else bif decide (0 ≤ pFind p.Identities p1) then (List.getD p.Identities (Int.toNat (pFind p.Identities p1)) Identity.zero).Address.Kind == p.Target.Kind && (List.getD p.Identities (Int.toNat (pFind p.Identities p1)) Identity.zero).Address.Bits == p.Target.Bits else false) v))))))))))))))) (connects.L (false) v))
theorem connects.nf_ok (p : AdvParams) (p1 : Address) (v : Bool) : evFun (mkCxI Tryd.prog S tab_r21Start 0 false sum_fIdx) 4 65 [AdvParams.av p, Address.av p1] [] (fun r' H' => Gives r' H' (connects.res v) (connects.news v)) = connects.nf p p1 v := by kernel_rfl
theorem connects.key (p : AdvParams) (p1 : Address) (v : Bool) (hv : v = connects p p1) : connects.nf p p1 v := by
  unfold connects at hv
  unfold connects.nf
  revert hv; refine by_cond2 (fun hb hv => ?_) (fun hb hv => ?_)
  subst hv; exact ⟨rfl, rfl⟩
  revert hv; refine by_cond2 (fun hb hv => ?_) (fun hb hv => ?_)
  refine ⟨⟨o3_ok _⟩, ?_⟩
  refine ⟨⟨o3_ok _⟩, ?_⟩
  refine ⟨⟨o3_ok _⟩, ?_⟩
  refine ⟨⟨o3_ok _⟩, ?_⟩
  refine ⟨⟨o3_ok _⟩, ?_⟩
  refine ⟨⟨?_⟩, ?_⟩; rotate_left
  refine ⟨⟨o3_ok _⟩, ?_⟩
  refine ⟨⟨o3_ok _⟩, ?_⟩
  refine ⟨⟨o3_ok _⟩, ?_⟩
  refine ⟨⟨o3_ok _⟩, ?_⟩
  refine ⟨⟨o3_ok _⟩, ?_⟩
  refine ⟨⟨o2_ok _⟩, ?_⟩
  refine ⟨⟨?_⟩, ?_⟩; rotate_left
  refine ⟨⟨on_ok _⟩, ?_⟩
  subst hv; exact ⟨rfl, rfl⟩
  subst hv; exact ⟨rfl, rfl⟩
  all_goals ((try clear hv); (try clear q1 q2); (try clear hk); (first | omega | ((try simp only [decide_eq_true_eq, decide_eq_false_iff_not, Bool.not_eq_true, Bool.not_eq_false, Bool.and_eq_true, Bool.or_eq_true, Bool.not_not, cond_and, cond_or, List.length_append, List.length_cons, List.length_nil] at *); (first | done | ((first | omega | (intros; (try simp only [Bool.not_not, cond_and, cond_or, Bool.and_eq_true, decide_eq_true_eq] at *); (refine ⟨?_, pFind_lt _ _⟩; (first | omega | (simp_all; done)))) | (intros; (try simp only [Bool.not_not, cond_and, cond_or, Bool.and_eq_true, decide_eq_true_eq] at *); (refine ⟨?_, r9Find_lt _ _⟩; (first | omega | (simp_all; done)))) | (intros; (try simp only [Bool.not_not, cond_and, cond_or, Bool.and_eq_true, decide_eq_true_eq] at *); (exact ⟨by decide, by simp⟩)) | (intros; (try simp only [Bool.not_not, cond_and, cond_or, Bool.and_eq_true, decide_eq_true_eq] at *); (exact band_nn rfl _ _)) | (intros; (try simp only [Bool.not_not, cond_and, cond_or, Bool.and_eq_true, decide_eq_true_eq] at *); (exact (wu64s _).2.1)) | (intros; (try simp only [Bool.not_not, cond_and, cond_or, Bool.and_eq_true, decide_eq_true_eq] at *); (simp only [Bool.or_eq_false_iff, Bool.and_eq_false_iff, decide_eq_false_iff_not, decide_eq_true_eq, bne_iff_ne, beq_iff_eq, bne_eq_false_iff_eq, beq_eq_false_iff_ne, ne_eq, true_and] at *; omega)) | (intros; (try simp only [Bool.not_not, cond_and, cond_or, Bool.and_eq_true, decide_eq_true_eq] at *); (simp only [List.length_drop, List.length_take, List.length_append, List.length_cons, List.length_nil] at *; omega)) | (intros; omega) | (intros; simp only [Bool.not_not, cond_and, cond_or, Bool.and_eq_true, decide_eq_true_eq] at *; omega) | (intros; simp_all [Bool.not_not]; done)))))))
def connects.ct : Ct El := ctOf connects.dec (fun _ => []) (fun x => connects.res (connects x.1 x.2)) (fun x => connects.news (connects x.1 x.2))
theorem connects.ok : CtOk (mkCx Tryd.prog S [] 0) 65 connects.ct := ct_mk (C := (mkCxI Tryd.prog S tab_r21Start 0 false sum_fIdx)) (mkCxI_ok sigOk mixed tab_r21Start_ok 0 false sum_fIdx_ok) connects.dec_ok (fun x => rfl) 4 (fun x _ => (connects.nf_ok x.1 x.2 _).mpr (connects.key x.1 x.2 _ rfl))
def tab_connects : List (FuncId × Ct El) := (65, connects.ct) :: tab_r21Accepts
theorem tab_connects_ok : TabOk Tryd.prog S tab_connects := ⟨connects.ok, by kernel_rfl, tab_r21Accepts_ok⟩
def r21Meant.res (r : Bool) : AV El := .v (.bool (r))
def r21Meant.news (r : Bool) : List (AObj El) := []
def r21Meant.L (e v : Bool) : Prop := r21Meant.res e = r21Meant.res v ∧ r21Meant.news e = r21Meant.news v
def r21Meant (a : Advertiser) (p : AdvPDU) : Bool := bif bif bif p.Kind == (3 : Int) then true else p.Kind == (5 : Int) then r19Check p == (0 : Int) else false then
  p.Target.Kind == a.Params.Own.Kind && p.Target.Bits == a.Params.Own.Bits
else false
def r21Meant.dec (cs : List (AV El)) : Option (Advertiser × AdvPDU) := popA Advertiser.dec cs fun a0 c0 => popA AdvPDU.dec c0 fun a1 c1 => popE c1 (a0, a1)
def r21Meant.enc (x : Advertiser × AdvPDU) : List (AV El) := [Advertiser.av x.1, AdvPDU.av x.2]
theorem r21Meant.dec_ok : ∀ cs x, r21Meant.dec cs = some x → Imp (S := S) cs (r21Meant.enc x) := by
  intro cs x h
  unfold r21Meant.dec at h
  obtain ⟨a0, c0, h0, k0⟩ := popA_some (S := S) Advertiser.dec_ok h
  obtain ⟨a1, c1, h1, k1⟩ := popA_some (S := S) AdvPDU.dec_ok h0
  obtain ⟨rfl, rfl⟩ := popE_some (S := S) h1
  exact (k0 _ (k1 _ (.refl _)))
def r21Meant.nf (a : Advertiser) (p : AdvPDU) (v : Bool) : Prop := Ob (o3 (!p.Kind == 3)) ∧ (Ob (o3 (!p.Kind == 3)) ∧ (Ob (on (p.Kind == 3)) ∧ (Ob (o3 (bif p.Kind == 3 then true else p.Kind == 5)) ∧ (Ob (o3 (bif p.Kind == 3 then true else p.Kind == 5)) ∧ (Ob (o2 (bif p.Kind == 3 then true else p.Kind == 5)) ∧ (Ob (o3 (bif bif p.Kind == 3 then true else p.Kind == 5 then r19Check p == 0 else false)) ∧ (Ob (o3 (bif bif p.Kind == 3 then true else p.Kind == 5 then r19Check p == 0 else false)) ∧ (Ob (o3 (bif bif p.Kind == 3 then true else p.Kind == 5 then r19Check p == 0 else false)) ∧ (Ob (o3 (bif bif p.Kind == 3 then true else p.Kind == 5 then r19Check p == 0 else false)) ∧ (Ob (o3 (bif bif p.Kind == 3 then true else p.Kind == 5 then r19Check p == 0 else false)) ∧ (Ob (o2 (bif bif p.Kind == 3 then true else p.Kind == 5 then r19Check p == 0 else false)) ∧ (r21Meant.L (bif bif bif p.Kind == 3 then true else p.Kind == 5 then r19Check p == 0 else false then p.Target.Kind == a.Params.Own.Kind && p.Target.Bits == a.Params.Own.Bits else false) v))))))))))))
theorem r21Meant.nf_ok (a : Advertiser) (p : AdvPDU) (v : Bool) : evFun (mkCxI Tryd.prog S tab_r21Start 0 false sum_fIdx) 4 31 [Advertiser.av a, AdvPDU.av p] [] (fun r' H' => Gives r' H' (r21Meant.res v) (r21Meant.news v)) = r21Meant.nf a p v := by kernel_rfl
theorem r21Meant.key (a : Advertiser) (p : AdvPDU) (v : Bool) (hv : v = r21Meant a p) : r21Meant.nf a p v := by
  unfold r21Meant at hv
  unfold r21Meant.nf
  refine ⟨⟨o3_ok _⟩, ?_⟩
  refine ⟨⟨o3_ok _⟩, ?_⟩
  refine ⟨⟨on_ok _⟩, ?_⟩
  refine ⟨⟨o3_ok _⟩, ?_⟩
  refine ⟨⟨o3_ok _⟩, ?_⟩
  refine ⟨⟨o2_ok _⟩, ?_⟩
  refine ⟨⟨o3_ok _⟩, ?_⟩
  refine ⟨⟨o3_ok _⟩, ?_⟩
  refine ⟨⟨o3_ok _⟩, ?_⟩
  refine ⟨⟨o3_ok _⟩, ?_⟩
  refine ⟨⟨o3_ok _⟩, ?_⟩
  refine ⟨⟨o2_ok _⟩, ?_⟩
  subst hv; exact ⟨rfl, rfl⟩
def r21Meant.ct : Ct El := ctOf r21Meant.dec (fun _ => []) (fun x => r21Meant.res (r21Meant x.1 x.2)) (fun x => r21Meant.news (r21Meant x.1 x.2))
theorem r21Meant.ok : CtOk (mkCx Tryd.prog S [] 0) 31 r21Meant.ct := ct_mk (C := (mkCxI Tryd.prog S tab_r21Start 0 false sum_fIdx)) (mkCxI_ok sigOk mixed tab_r21Start_ok 0 false sum_fIdx_ok) r21Meant.dec_ok (fun x => rfl) 4 (fun x _ => (r21Meant.nf_ok x.1 x.2 _).mpr (r21Meant.key x.1 x.2 _ rfl))
def tab_r21Meant : List (FuncId × Ct El) := (31, r21Meant.ct) :: tab_connects
theorem tab_r21Meant_ok : TabOk Tryd.prog S tab_r21Meant := ⟨r21Meant.ok, by kernel_rfl, tab_connects_ok⟩
end Go.Aw.W
