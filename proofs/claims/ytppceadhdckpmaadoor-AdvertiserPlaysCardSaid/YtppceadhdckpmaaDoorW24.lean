/- Contracts of the seat (printed by ct.py). -/
import Derived.Test.YtppceadhdckpmaaDoorW23
set_option linter.unusedVariables false
set_option linter.unusedSimpArgs false
set_option maxRecDepth 20000
set_option maxHeartbeats 1000000
namespace Go.Aw.W
open Go Go.Aw Go.Proofs
attribute [local irreducible] evCode evFun evOps evDs evOne ctxK loopK loopB subC bodyC headS okH roundK
attribute [local irreducible] pFind r9Find pCheck r19Check connects r21Accepts
def advAnswer.res (r : Advertiser × (List Send) × Bool) : AV El := .tup [Advertiser.av (r.1), .sl 63 (r.2.1 : List (El 63)) false, .v (.bool (r.2.2))]
def advAnswer.news (r : Advertiser × (List Send) × Bool) : List (AObj El) := []
def advAnswer.L (e v : Advertiser × (List Send) × Bool) : Prop := advAnswer.res e = advAnswer.res v ∧ advAnswer.news e = advAnswer.news v
def advAnswer (a : Advertiser) (p : AdvPDU) (channel : Int) (p3 : Int) : Advertiser × (List Send) × Bool := cond (bif bif bif bif !(advOwn a).On then true else decide (channel < 37) then true else decide (39 < channel) then true else pCheck p != 0 then true else !(p.Target.Kind == (advOwn a).Params.Own.Kind && p.Target.Bits == (advOwn a).Params.Own.Bits)) (((advOwn a), [], false)) (cond (bif bif p.Kind == 3 then aScan (advOwn a).Params.Kind else false then accAllows (advOwn a).Params.Policy p.Kind (advOwn a).Params.Accept (advOwn a).Params.Identities p.Sender else false) (((advOwn a), [{ Channel := channel, Time := IntKind.wrap IntKind.i64 (advMoment p3 + 150), PDU := advScan (advOwn a).Params : Send }], false)) (cond (bif p.Kind == 5 then connects (advOwn a).Params p.Sender else false) (((⟨⟨((advOwn a).Params.Kind), ((advOwn a).Params.Interval), ⟨((advOwn a).Params.Own.Kind), ((advOwn a).Params.Own.Bits)⟩, ⟨((advOwn a).Params.Target.Kind), ((advOwn a).Params.Target.Bits)⟩, ((advOwn a).Params.Data), ((advOwn a).Params.Scan), ((advOwn a).Params.Policy), ((advOwn a).Params.Accept), ((advOwn a).Params.Identities), ((advOwn a).Params.Seed)⟩, (false), ((advOwn a).Event), ((advOwn a).Next)⟩ : Advertiser), [], true)) (((advOwn a), [], false))))
def advAnswer.dec (cs : List (AV El)) : Option (Advertiser × AdvPDU × Int × Int) := popA Advertiser.dec cs fun a0 c0 => popA AdvPDU.dec c0 fun a1 c1 => popI .i64 c1 fun a2 c2 => popI .i64 c2 fun a3 c3 => popE c3 (a0, a1, a2, a3)
def advAnswer.enc (x : Advertiser × AdvPDU × Int × Int) : List (AV El) := [Advertiser.av x.1, AdvPDU.av x.2.1, .v (.int .i64 x.2.2.1), .v (.int .i64 x.2.2.2)]
theorem advAnswer.dec_ok : ∀ cs x, advAnswer.dec cs = some x → Imp (S := S) cs (advAnswer.enc x) := by
  intro cs x h
  unfold advAnswer.dec at h
  obtain ⟨a0, c0, h0, k0⟩ := popA_some (S := S) Advertiser.dec_ok h
  obtain ⟨a1, c1, h1, k1⟩ := popA_some (S := S) AdvPDU.dec_ok h0
  obtain ⟨a2, c2, rfl, h2⟩ := popI_some (S := S) h1
  obtain ⟨a3, c3, rfl, h3⟩ := popI_some (S := S) h2
  obtain ⟨rfl, rfl⟩ := popE_some (S := S) h3
  exact (k0 _ (k1 _ (.cons (.cons (.refl _)))))
def advAnswer_nf_g1 (a : Advertiser) (channel : Int) : Bool := bif (!(advOwn a).On) then true else (decide (channel < (37 : Int)))
def advAnswer_nf_g2 (a : Advertiser) (channel : Int) : Bool := bif (advAnswer_nf_g1 a channel) then true else (decide ((39 : Int) < channel))
def advAnswer_nf_g3 (a : Advertiser) (p : AdvPDU) (channel : Int) : Bool := bif (advAnswer_nf_g2 a channel) then true else (pCheck p != (0 : Int))
def advAnswer_nf_g4 (a : Advertiser) (p : AdvPDU) : Bool := bif (p.Kind == (3 : Int)) then (aScan (advOwn a).Params.Kind) else false
def advAnswer.nf (a : Advertiser) (p : AdvPDU) (channel : Int) (p3 : Int) (v : Advertiser × (List Send) × Bool) : Prop := Ob (List.length a.Params.Data ≤ (140737488355328 : Nat) ∧ List.length a.Params.Scan ≤ (140737488355328 : Nat) ∧ List.length a.Params.Accept ≤ (4611686018427 : Nat) ∧ List.length a.Params.Identities ≤ (4611686018427 : Nat)) ∧ (Ob (o3 (!!(advOwn a).On)) ∧ (Ob (on (!(advOwn a).On)) ∧ (Ob (o3 (!(advAnswer_nf_g1 a channel))) ∧ (Ob (on (advAnswer_nf_g1 a channel)) ∧ (Ob (o3 (!(advAnswer_nf_g2 a channel))) ∧ (Ob (o3 (!(advAnswer_nf_g2 a channel))) ∧ (Ob (on (advAnswer_nf_g2 a channel)) ∧ (Ob (o3 (!(advAnswer_nf_g3 a p channel))) ∧ (Ob (o3 (!(advAnswer_nf_g3 a p channel))) ∧ (Ob (o3 (!(advAnswer_nf_g3 a p channel))) ∧ (Ob (o3 (!(advAnswer_nf_g3 a p channel))) ∧ (Ob (o3 (!(advAnswer_nf_g3 a p channel))) ∧ (Ob (on (advAnswer_nf_g3 a p channel)) ∧ (cond (bif bif bif bif !(advOwn a).On then true else decide (channel < 37) then true else decide (39 < channel) then true else pCheck p != 0 then true else !(p.Target.Kind == (advOwn a).Params.Own.Kind && p.Target.Bits == (advOwn a).Params.Own.Bits)) (advAnswer.L (((advOwn a), [], false)) v) (Ob (o3 (p.Kind == 3)) ∧ (Ob (o3 (p.Kind == 3)) ∧ (Ob (o2 (p.Kind == 3)) ∧ (Ob (o3 (advAnswer_nf_g4 a p)) ∧ (Ob (o3 (advAnswer_nf_g4 a p)) ∧ (Ob (o3 (advAnswer_nf_g4 a p)) ∧ (Ob (o3 (advAnswer_nf_g4 a p)) ∧ (Ob (o3 (advAnswer_nf_g4 a p)) ∧ (Ob (o3 (advAnswer_nf_g4 a p)) ∧ (Ob (o3 (advAnswer_nf_g4 a p)) ∧ (Ob (o3 (advAnswer_nf_g4 a p)) ∧ (Ob (o3 (advAnswer_nf_g4 a p)) ∧ (Ob (o3 (advAnswer_nf_g4 a p)) ∧ (Ob (o2 (advAnswer_nf_g4 a p)) ∧ (cond (bif bif p.Kind == 3 then aScan (advOwn a).Params.Kind else false then accAllows (advOwn a).Params.Policy p.Kind (advOwn a).Params.Accept (advOwn a).Params.Identities p.Sender else false) (Ob (List.length (advOwn a).Params.Data ≤ (140737488355328 : Nat) ∧ List.length (advOwn a).Params.Scan ≤ (140737488355328 : Nat) ∧ List.length (advOwn a).Params.Accept ≤ (4611686018427 : Nat) ∧ List.length (advOwn a).Params.Identities ≤ (4611686018427 : Nat)) ∧ (advAnswer.L (((advOwn a), [{ Channel := channel, Time := IntKind.wrap IntKind.i64 (advMoment p3 + 150), PDU := advScan (advOwn a).Params : Send }], false)) v)) (Ob (o3 (p.Kind == 5)) ∧ (Ob (o3 (p.Kind == 5)) ∧ (Ob (o3 (p.Kind == 5)) ∧ (Ob (o2 (p.Kind == 5)) ∧ (cond (bif p.Kind == 5 then connects (advOwn a).Params p.Sender else false) (advAnswer.L (((⟨⟨((advOwn a).Params.Kind), ((advOwn a).Params.Interval), ⟨((advOwn a).Params.Own.Kind), ((advOwn a).Params.Own.Bits)⟩, ⟨((advOwn a).Params.Target.Kind), ((advOwn a).Params.Target.Bits)⟩, ((advOwn a).Params.Data), ((advOwn a).Params.Scan), ((advOwn a).Params.Policy), ((advOwn a).Params.Accept), ((advOwn a).Params.Identities), ((advOwn a).Params.Seed)⟩, (false), ((advOwn a).Event), ((advOwn a).Next)⟩ : Advertiser), [], true)) v) (advAnswer.L (((advOwn a), [], false)) v)))))))))))))))))))))))))))))))))))
theorem advAnswer.nf_ok (a : Advertiser) (p : AdvPDU) (channel : Int) (p3 : Int) (v : Advertiser × (List Send) × Bool) : evFun (mkCxI Tryd.prog S tab_own21 0 true sum_fIdx) 4 25 [Advertiser.av a, AdvPDU.av p, .v (.int .i64 channel), .v (.int .i64 p3)] [] (fun r' H' => Gives r' H' (advAnswer.res v) (advAnswer.news v)) = advAnswer.nf a p channel p3 v := by kernel_rfl
theorem advAnswer.key (a : Advertiser) (p : AdvPDU) (channel : Int) (p3 : Int) (hp : a.Params.Data.length ≤ 140737488355328 ∧ a.Params.Scan.length ≤ 140737488355328 ∧ a.Params.Accept.length ≤ 4611686018427 ∧ a.Params.Identities.length ≤ 4611686018427) (v : Advertiser × (List Send) × Bool) (hv : v = advAnswer a p channel p3) : advAnswer.nf a p channel p3 v := by
  unfold advAnswer at hv
  unfold advAnswer.nf
  refine ⟨⟨?_⟩, ?_⟩; rotate_left
  refine ⟨⟨o3_ok _⟩, ?_⟩
  refine ⟨⟨on_ok _⟩, ?_⟩
  refine ⟨⟨o3_ok _⟩, ?_⟩
  refine ⟨⟨on_ok _⟩, ?_⟩
  refine ⟨⟨o3_ok _⟩, ?_⟩
  refine ⟨⟨o3_ok _⟩, ?_⟩
  refine ⟨⟨on_ok _⟩, ?_⟩
  refine ⟨⟨o3_ok _⟩, ?_⟩
  refine ⟨⟨o3_ok _⟩, ?_⟩
  refine ⟨⟨o3_ok _⟩, ?_⟩
  refine ⟨⟨o3_ok _⟩, ?_⟩
  refine ⟨⟨o3_ok _⟩, ?_⟩
  refine ⟨⟨on_ok _⟩, ?_⟩
  revert hv; refine by_cond2 (fun hb hv => ?_) (fun hb hv => ?_)
  subst hv; exact ⟨rfl, rfl⟩
  refine ⟨⟨o3_ok _⟩, ?_⟩
  refine ⟨⟨o3_ok _⟩, ?_⟩
  refine ⟨⟨o2_ok _⟩, ?_⟩
  refine ⟨⟨o3_ok _⟩, ?_⟩
  refine ⟨⟨o3_ok _⟩, ?_⟩
  refine ⟨⟨o3_ok _⟩, ?_⟩
  refine ⟨⟨o3_ok _⟩, ?_⟩
  refine ⟨⟨o3_ok _⟩, ?_⟩
  refine ⟨⟨o3_ok _⟩, ?_⟩
  refine ⟨⟨o3_ok _⟩, ?_⟩
  refine ⟨⟨o3_ok _⟩, ?_⟩
  refine ⟨⟨o3_ok _⟩, ?_⟩
  refine ⟨⟨o3_ok _⟩, ?_⟩
  refine ⟨⟨o2_ok _⟩, ?_⟩
  revert hv; refine by_cond2 (fun hb hv => ?_) (fun hb hv => ?_)
  refine ⟨⟨?_⟩, ?_⟩; rotate_left
  subst hv; exact ⟨rfl, rfl⟩
  refine ⟨⟨o3_ok _⟩, ?_⟩
  refine ⟨⟨o3_ok _⟩, ?_⟩
  refine ⟨⟨o3_ok _⟩, ?_⟩
  refine ⟨⟨o2_ok _⟩, ?_⟩
  revert hv; refine by_cond2 (fun hb hv => ?_) (fun hb hv => ?_)
  subst hv; exact ⟨rfl, rfl⟩
  subst hv; exact ⟨rfl, rfl⟩
  all_goals ((try clear hv); (try clear q1 q2); (try clear hk); (first | omega | (simp only [advOwn_eq] at *; (first | assumption | omega)) | ((try simp only [decide_eq_true_eq, decide_eq_false_iff_not, Bool.not_eq_true, Bool.not_eq_false, Bool.and_eq_true, Bool.or_eq_true, Bool.not_not, cond_and, cond_or, List.length_append, List.length_cons, List.length_nil] at *); (first | done | ((first | omega | (intros; (try simp only [Bool.not_not, cond_and, cond_or, Bool.and_eq_true, decide_eq_true_eq] at *); (refine ⟨?_, pFind_lt _ _⟩; (first | omega | (simp_all; done)))) | (intros; (try simp only [Bool.not_not, cond_and, cond_or, Bool.and_eq_true, decide_eq_true_eq] at *); (refine ⟨?_, r9Find_lt _ _⟩; (first | omega | (simp_all; done)))) | (intros; (try simp only [Bool.not_not, cond_and, cond_or, Bool.and_eq_true, decide_eq_true_eq] at *); (exact ⟨by decide, by simp⟩)) | (intros; (try simp only [Bool.not_not, cond_and, cond_or, Bool.and_eq_true, decide_eq_true_eq] at *); (exact band_nn rfl _ _)) | (intros; (try simp only [Bool.not_not, cond_and, cond_or, Bool.and_eq_true, decide_eq_true_eq] at *); (exact (wu64s _).2.1)) | (intros; (try simp only [Bool.not_not, cond_and, cond_or, Bool.and_eq_true, decide_eq_true_eq] at *); (simp only [Bool.or_eq_false_iff, Bool.and_eq_false_iff, decide_eq_false_iff_not, decide_eq_true_eq, bne_iff_ne, beq_iff_eq, bne_eq_false_iff_eq, beq_eq_false_iff_ne, ne_eq, true_and] at *; omega)) | (intros; (try simp only [Bool.not_not, cond_and, cond_or, Bool.and_eq_true, decide_eq_true_eq] at *); (simp only [List.length_drop, List.length_take, List.length_append, List.length_cons, List.length_nil] at *; omega)) | (intros; omega) | (intros; simp only [Bool.not_not, cond_and, cond_or, Bool.and_eq_true, decide_eq_true_eq] at *; omega) | (intros; simp_all [Bool.not_not]; done)))))))
def advAnswer.ct : Ct El := ctOf advAnswer.dec (fun x => [x.1.Params.Data.length ≤ 140737488355328 ∧ x.1.Params.Scan.length ≤ 140737488355328 ∧ x.1.Params.Accept.length ≤ 4611686018427 ∧ x.1.Params.Identities.length ≤ 4611686018427]) (fun x => advAnswer.res (advAnswer x.1 x.2.1 x.2.2.1 x.2.2.2)) (fun x => advAnswer.news (advAnswer x.1 x.2.1 x.2.2.1 x.2.2.2))
theorem advAnswer.ok : CtOk (mkCx Tryd.prog S [] 0) 25 advAnswer.ct := ct_mk (C := (mkCxI Tryd.prog S tab_own21 0 true sum_fIdx)) (mkCxI_ok sigOk mixed tab_own21_ok 0 true sum_fIdx_ok) advAnswer.dec_ok (fun x => rfl) 4 (fun x hp => (advAnswer.nf_ok x.1 x.2.1 x.2.2.1 x.2.2.2 _).mpr (advAnswer.key x.1 x.2.1 x.2.2.1 x.2.2.2 (hp _ (List.mem_singleton.2 rfl)) _ rfl))
def tab_advAnswer : List (FuncId × Ct El) := (25, advAnswer.ct) :: tab_own21
theorem tab_advAnswer_ok : TabOk Tryd.prog S tab_advAnswer := ⟨advAnswer.ok, by kernel_rfl, tab_own21_ok⟩
def r21Answer.res (r : Advertiser × (List Send) × Bool) : AV El := .tup [Advertiser.av (r.1), .sl 63 (r.2.1 : List (El 63)) false, .v (.bool (r.2.2))]
def r21Answer.news (r : Advertiser × (List Send) × Bool) : List (AObj El) := []
def r21Answer.L (e v : Advertiser × (List Send) × Bool) : Prop := r21Answer.res e = r21Answer.res v ∧ r21Answer.news e = r21Answer.news v
def r21Answer (a : Advertiser) (p : AdvPDU) (channel : Int) (p3 : Int) : Advertiser × (List Send) × Bool := cond (bif bif bif !a.On then true else decide (channel < 37) then true else decide (39 < channel) then true else !r21Meant a p) ((a, [], false)) (cond (p.Kind == 5) (cond (!r21Accepts a.Params p.Sender) ((a, [], false)) (((⟨⟨(a.Params.Kind), (a.Params.Interval), ⟨(a.Params.Own.Kind), (a.Params.Own.Bits)⟩, ⟨(a.Params.Target.Kind), (a.Params.Target.Bits)⟩, (a.Params.Data), (a.Params.Scan), (a.Params.Policy), (a.Params.Accept), (a.Params.Identities), (a.Params.Seed)⟩, (false), (a.Event), (a.Next)⟩ : Advertiser), [], true))) (cond (bif !r19Scan a.Params.Kind then true else !r20Allows a.Params.Policy 3 a.Params.Accept a.Params.Identities p.Sender) ((a, [], false)) ((a, [{ Channel := channel, Time := IntKind.wrap IntKind.i64 (r21Place p3 + 150), PDU := r21Scan a.Params : Send }], false))))
def r21Answer.dec (cs : List (AV El)) : Option (Advertiser × AdvPDU × Int × Int) := popA Advertiser.dec cs fun a0 c0 => popA AdvPDU.dec c0 fun a1 c1 => popI .i64 c1 fun a2 c2 => popI .i64 c2 fun a3 c3 => popE c3 (a0, a1, a2, a3)
def r21Answer.enc (x : Advertiser × AdvPDU × Int × Int) : List (AV El) := [Advertiser.av x.1, AdvPDU.av x.2.1, .v (.int .i64 x.2.2.1), .v (.int .i64 x.2.2.2)]
theorem r21Answer.dec_ok : ∀ cs x, r21Answer.dec cs = some x → Imp (S := S) cs (r21Answer.enc x) := by
  intro cs x h
  unfold r21Answer.dec at h
  obtain ⟨a0, c0, h0, k0⟩ := popA_some (S := S) Advertiser.dec_ok h
  obtain ⟨a1, c1, h1, k1⟩ := popA_some (S := S) AdvPDU.dec_ok h0
  obtain ⟨a2, c2, rfl, h2⟩ := popI_some (S := S) h1
  obtain ⟨a3, c3, rfl, h3⟩ := popI_some (S := S) h2
  obtain ⟨rfl, rfl⟩ := popE_some (S := S) h3
  exact (k0 _ (k1 _ (.cons (.cons (.refl _)))))
def r21Answer.nf (a : Advertiser) (p : AdvPDU) (channel : Int) (p3 : Int) (v : Advertiser × (List Send) × Bool) : Prop := Ob (o3 (!!a.On)) ∧ (Ob (on (!a.On)) ∧ (Ob (o3 (!bif !a.On then true else decide (channel < 37))) ∧ (Ob (on (bif !a.On then true else decide (channel < 37))) ∧ (Ob (o3 (!bif bif !a.On then true else decide (channel < 37) then true else decide (39 < channel))) ∧ (Ob (o3 (!bif bif !a.On then true else decide (channel < 37) then true else decide (39 < channel))) ∧ (Ob (o3 (!bif bif !a.On then true else decide (channel < 37) then true else decide (39 < channel))) ∧ (Ob (on (bif bif !a.On then true else decide (channel < 37) then true else decide (39 < channel))) ∧ (cond (bif bif bif !a.On then true else decide (channel < 37) then true else decide (39 < channel) then true else !r21Meant a p) (r21Answer.L ((a, [], false)) v) (cond (p.Kind == 5) (cond (!r21Accepts a.Params p.Sender) (r21Answer.L ((a, [], false)) v) (r21Answer.L (((⟨⟨(a.Params.Kind), (a.Params.Interval), ⟨(a.Params.Own.Kind), (a.Params.Own.Bits)⟩, ⟨(a.Params.Target.Kind), (a.Params.Target.Bits)⟩, (a.Params.Data), (a.Params.Scan), (a.Params.Policy), (a.Params.Accept), (a.Params.Identities), (a.Params.Seed)⟩, (false), (a.Event), (a.Next)⟩ : Advertiser), [], true)) v)) (Ob (o3 (!!r19Scan a.Params.Kind)) ∧ (Ob (o3 (!!r19Scan a.Params.Kind)) ∧ (Ob (o3 (!!r19Scan a.Params.Kind)) ∧ (Ob (o3 (!!r19Scan a.Params.Kind)) ∧ (Ob (o3 (!!r19Scan a.Params.Kind)) ∧ (Ob (o3 (!!r19Scan a.Params.Kind)) ∧ (Ob (o3 (!!r19Scan a.Params.Kind)) ∧ (Ob (o3 (!!r19Scan a.Params.Kind)) ∧ (Ob (o3 (!!r19Scan a.Params.Kind)) ∧ (Ob (on (!r19Scan a.Params.Kind)) ∧ (cond (bif !r19Scan a.Params.Kind then true else !r20Allows a.Params.Policy 3 a.Params.Accept a.Params.Identities p.Sender) (r21Answer.L ((a, [], false)) v) (Ob (List.length a.Params.Data ≤ (140737488355328 : Nat) ∧ List.length a.Params.Scan ≤ (140737488355328 : Nat) ∧ List.length a.Params.Accept ≤ (4611686018427 : Nat) ∧ List.length a.Params.Identities ≤ (4611686018427 : Nat)) ∧ (r21Answer.L ((a, [{ Channel := channel, Time := IntKind.wrap IntKind.i64 (r21Place p3 + 150), PDU := r21Scan a.Params : Send }], false)) v))))))))))))))))))))))
theorem r21Answer.nf_ok (a : Advertiser) (p : AdvPDU) (channel : Int) (p3 : Int) (v : Advertiser × (List Send) × Bool) : evFun (mkCxI Tryd.prog S tab_own21 0 true sum_fIdx) 4 26 [Advertiser.av a, AdvPDU.av p, .v (.int .i64 channel), .v (.int .i64 p3)] [] (fun r' H' => Gives r' H' (r21Answer.res v) (r21Answer.news v)) = r21Answer.nf a p channel p3 v := by kernel_rfl
theorem r21Answer.key (a : Advertiser) (p : AdvPDU) (channel : Int) (p3 : Int) (hp : a.Params.Data.length ≤ 140737488355328 ∧ a.Params.Scan.length ≤ 140737488355328 ∧ a.Params.Accept.length ≤ 4611686018427 ∧ a.Params.Identities.length ≤ 4611686018427) (v : Advertiser × (List Send) × Bool) (hv : v = r21Answer a p channel p3) : r21Answer.nf a p channel p3 v := by
  unfold r21Answer at hv
  unfold r21Answer.nf
  refine ⟨⟨o3_ok _⟩, ?_⟩
  refine ⟨⟨on_ok _⟩, ?_⟩
  refine ⟨⟨o3_ok _⟩, ?_⟩
  refine ⟨⟨on_ok _⟩, ?_⟩
  refine ⟨⟨o3_ok _⟩, ?_⟩
  refine ⟨⟨o3_ok _⟩, ?_⟩
  refine ⟨⟨o3_ok _⟩, ?_⟩
  refine ⟨⟨on_ok _⟩, ?_⟩
  revert hv; refine by_cond2 (fun hb hv => ?_) (fun hb hv => ?_)
  · subst hv; exact ⟨rfl, rfl⟩
  · revert hv; refine by_cond2 (fun hb hv => ?_) (fun hb hv => ?_)
    · revert hv; refine by_cond2 (fun hb hv => ?_) (fun hb hv => ?_)
      · subst hv; exact ⟨rfl, rfl⟩
      · subst hv; exact ⟨rfl, rfl⟩
    · refine ⟨⟨o3_ok _⟩, ?_⟩
      refine ⟨⟨o3_ok _⟩, ?_⟩
      refine ⟨⟨o3_ok _⟩, ?_⟩
      refine ⟨⟨o3_ok _⟩, ?_⟩
      refine ⟨⟨o3_ok _⟩, ?_⟩
      refine ⟨⟨o3_ok _⟩, ?_⟩
      refine ⟨⟨o3_ok _⟩, ?_⟩
      refine ⟨⟨o3_ok _⟩, ?_⟩
      refine ⟨⟨o3_ok _⟩, ?_⟩
      refine ⟨⟨on_ok _⟩, ?_⟩
      revert hv; refine by_cond2 (fun hb hv => ?_) (fun hb hv => ?_)
      · subst hv; exact ⟨rfl, rfl⟩
      · refine ⟨⟨by (try clear hv); (try clear q1 q2); (try clear hk); (first | omega | (simp only [advOwn_eq] at *; (first | assumption | omega)) | ((try simp only [decide_eq_true_eq, decide_eq_false_iff_not, Bool.not_eq_true, Bool.not_eq_false, Bool.and_eq_true, Bool.or_eq_true, Bool.not_not, cond_and, cond_or, List.length_append, List.length_cons, List.length_nil] at *); (first | done | ((first | omega | (intros; (try simp only [Bool.not_not, cond_and, cond_or, Bool.and_eq_true, decide_eq_true_eq] at *); (refine ⟨?_, pFind_lt _ _⟩; (first | omega | (simp_all; done)))) | (intros; (try simp only [Bool.not_not, cond_and, cond_or, Bool.and_eq_true, decide_eq_true_eq] at *); (refine ⟨?_, r9Find_lt _ _⟩; (first | omega | (simp_all; done)))) | (intros; (try simp only [Bool.not_not, cond_and, cond_or, Bool.and_eq_true, decide_eq_true_eq] at *); (exact ⟨by decide, by simp⟩)) | (intros; (try simp only [Bool.not_not, cond_and, cond_or, Bool.and_eq_true, decide_eq_true_eq] at *); (exact band_nn rfl _ _)) | (intros; (try simp only [Bool.not_not, cond_and, cond_or, Bool.and_eq_true, decide_eq_true_eq] at *); (exact (wu64s _).2.1)) | (intros; (try simp only [Bool.not_not, cond_and, cond_or, Bool.and_eq_true, decide_eq_true_eq] at *); (simp only [Bool.or_eq_false_iff, Bool.and_eq_false_iff, decide_eq_false_iff_not, decide_eq_true_eq, bne_iff_ne, beq_iff_eq, bne_eq_false_iff_eq, beq_eq_false_iff_ne, ne_eq, true_and] at *; omega)) | (intros; (try simp only [Bool.not_not, cond_and, cond_or, Bool.and_eq_true, decide_eq_true_eq] at *); (simp only [List.length_drop, List.length_take, List.length_append, List.length_cons, List.length_nil] at *; omega)) | (intros; omega) | (intros; simp only [Bool.not_not, cond_and, cond_or, Bool.and_eq_true, decide_eq_true_eq] at *; omega) | (intros; simp_all [Bool.not_not]; done))))))⟩, ?_⟩
        subst hv; exact ⟨rfl, rfl⟩
def r21Answer.ct : Ct El := ctOf r21Answer.dec (fun x => [x.1.Params.Data.length ≤ 140737488355328 ∧ x.1.Params.Scan.length ≤ 140737488355328 ∧ x.1.Params.Accept.length ≤ 4611686018427 ∧ x.1.Params.Identities.length ≤ 4611686018427]) (fun x => r21Answer.res (r21Answer x.1 x.2.1 x.2.2.1 x.2.2.2)) (fun x => r21Answer.news (r21Answer x.1 x.2.1 x.2.2.1 x.2.2.2))
theorem r21Answer.ok : CtOk (mkCx Tryd.prog S [] 0) 26 r21Answer.ct := ct_mk (C := (mkCxI Tryd.prog S tab_own21 0 true sum_fIdx)) (mkCxI_ok sigOk mixed tab_own21_ok 0 true sum_fIdx_ok) r21Answer.dec_ok (fun x => rfl) 4 (fun x hp => (r21Answer.nf_ok x.1 x.2.1 x.2.2.1 x.2.2.2 _).mpr (r21Answer.key x.1 x.2.1 x.2.2.1 x.2.2.2 (hp _ (List.mem_singleton.2 rfl)) _ rfl))
def tab_r21Answer : List (FuncId × Ct El) := (26, r21Answer.ct) :: tab_advAnswer
theorem tab_r21Answer_ok : TabOk Tryd.prog S tab_r21Answer := ⟨r21Answer.ok, by kernel_rfl, tab_advAnswer_ok⟩
def r21SameSends.res (r : Bool) : AV El := .v (.bool (r))
def r21SameSends.news (r : Bool) : List (AObj El) := []
def r21SameSends.L (e v : Bool) : Prop := r21SameSends.res e = r21SameSends.res v ∧ r21SameSends.news e = r21SameSends.news v
def r21SameSends.go (a : List Send) (b : List Send) : Nat → Int → Bool
  | 0, _ => false
  | n0 + 1, i => cond (decide (i < (↑(List.length a) : Int))) (cond (bif
    bif (List.getD a (Int.toNat i) Send.zero).Channel != (List.getD b (Int.toNat i) Send.zero).Channel then true
    else (List.getD a (Int.toNat i) Send.zero).Time != (List.getD b (Int.toNat i) Send.zero).Time then
  true
else !r19Same (List.getD a (Int.toNat i) Send.zero).PDU (List.getD b (Int.toNat i) Send.zero).PDU) (false) (r21SameSends.go a b n0 (IntKind.wrap IntKind.i64 (i + (1 : Int))))) (true)
def r21SameSends.hd (a : List Send) (b : List Send) (i : Int) : St El := { lo := 0, slots := [(5, .v (.int .i64 (i))), (0, .sl 63 (a : List (El 63)) false), (1, .sl 63 (b : List (El 63)) false)], n := 55, objs := [] }
def r21SameSends.st (a : List Send) (b : List Send) (i : Int) (J : St El → Prop) (v : Bool) : Prop := (List.length a ≤ (9223372036854775807 : Nat)) → (cond (decide (i < (↑(List.length a) : Int))) (Ob (0 ≤ i ∧ i < (↑(List.length a) : Int)) ∧ (Ob (0 ≤ i ∧ i < (↑(List.length b) : Int)) ∧ (Ob (o3 (!(List.getD a (Int.toNat i) Send.zero).Channel != (List.getD b (Int.toNat i) Send.zero).Channel)) ∧ (Ob (o3 (!(List.getD a (Int.toNat i) Send.zero).Channel != (List.getD b (Int.toNat i) Send.zero).Channel)) ∧ (Ob ((!(List.getD a (Int.toNat i) Send.zero).Channel != (List.getD b (Int.toNat i) Send.zero).Channel) = true →
  (0 : Int) ≤ i ∧ i < (↑(List.length a) : Int)) ∧ (Ob (o3 (!(List.getD a (Int.toNat i) Send.zero).Channel != (List.getD b (Int.toNat i) Send.zero).Channel)) ∧ (Ob (o3 (!(List.getD a (Int.toNat i) Send.zero).Channel != (List.getD b (Int.toNat i) Send.zero).Channel)) ∧ (Ob (o3 (!(List.getD a (Int.toNat i) Send.zero).Channel != (List.getD b (Int.toNat i) Send.zero).Channel)) ∧ (Ob (o3 (!(List.getD a (Int.toNat i) Send.zero).Channel != (List.getD b (Int.toNat i) Send.zero).Channel)) ∧ (Ob ((!(List.getD a (Int.toNat i) Send.zero).Channel != (List.getD b (Int.toNat i) Send.zero).Channel) = true →
  (0 : Int) ≤ i ∧ i < (↑(List.length b) : Int)) ∧ (Ob (o3 (!(List.getD a (Int.toNat i) Send.zero).Channel != (List.getD b (Int.toNat i) Send.zero).Channel)) ∧ (Ob (o3 (!(List.getD a (Int.toNat i) Send.zero).Channel != (List.getD b (Int.toNat i) Send.zero).Channel)) ∧ (Ob (o3 (!(List.getD a (Int.toNat i) Send.zero).Channel != (List.getD b (Int.toNat i) Send.zero).Channel)) ∧ (Ob (o3 (!(List.getD a (Int.toNat i) Send.zero).Channel != (List.getD b (Int.toNat i) Send.zero).Channel)) ∧ (Ob (on ((List.getD a (Int.toNat i) Send.zero).Channel != (List.getD b (Int.toNat i) Send.zero).Channel)) ∧ (Ob (o3 (!bif (List.getD a (Int.toNat i) Send.zero).Channel != (List.getD b (Int.toNat i) Send.zero).Channel then true
  else (List.getD a (Int.toNat i) Send.zero).Time != (List.getD b (Int.toNat i) Send.zero).Time)) ∧ (Ob (o3 (!bif (List.getD a (Int.toNat i) Send.zero).Channel != (List.getD b (Int.toNat i) Send.zero).Channel then true
  else (List.getD a (Int.toNat i) Send.zero).Time != (List.getD b (Int.toNat i) Send.zero).Time)) ∧ (Ob ((!bif (List.getD a (Int.toNat i) Send.zero).Channel != (List.getD b (Int.toNat i) Send.zero).Channel then true
      else (List.getD a (Int.toNat i) Send.zero).Time != (List.getD b (Int.toNat i) Send.zero).Time) =
    true →
  (0 : Int) ≤ i ∧ i < (↑(List.length a) : Int)) ∧ (Ob (o3 (!bif (List.getD a (Int.toNat i) Send.zero).Channel != (List.getD b (Int.toNat i) Send.zero).Channel then true
  else (List.getD a (Int.toNat i) Send.zero).Time != (List.getD b (Int.toNat i) Send.zero).Time)) ∧ (Ob (o3 (!bif (List.getD a (Int.toNat i) Send.zero).Channel != (List.getD b (Int.toNat i) Send.zero).Channel then true
  else (List.getD a (Int.toNat i) Send.zero).Time != (List.getD b (Int.toNat i) Send.zero).Time)) ∧ (Ob (o3 (!bif (List.getD a (Int.toNat i) Send.zero).Channel != (List.getD b (Int.toNat i) Send.zero).Channel then true
  else (List.getD a (Int.toNat i) Send.zero).Time != (List.getD b (Int.toNat i) Send.zero).Time)) ∧ (Ob (o3 (!bif (List.getD a (Int.toNat i) Send.zero).Channel != (List.getD b (Int.toNat i) Send.zero).Channel then true
  else (List.getD a (Int.toNat i) Send.zero).Time != (List.getD b (Int.toNat i) Send.zero).Time)) ∧ (Ob ((!bif (List.getD a (Int.toNat i) Send.zero).Channel != (List.getD b (Int.toNat i) Send.zero).Channel then true
      else (List.getD a (Int.toNat i) Send.zero).Time != (List.getD b (Int.toNat i) Send.zero).Time) =
    true →
  (0 : Int) ≤ i ∧ i < (↑(List.length b) : Int)) ∧ (Ob (o3 (!bif (List.getD a (Int.toNat i) Send.zero).Channel != (List.getD b (Int.toNat i) Send.zero).Channel then true
  else (List.getD a (Int.toNat i) Send.zero).Time != (List.getD b (Int.toNat i) Send.zero).Time)) ∧ (Ob (o3 (!bif (List.getD a (Int.toNat i) Send.zero).Channel != (List.getD b (Int.toNat i) Send.zero).Channel then true
  else (List.getD a (Int.toNat i) Send.zero).Time != (List.getD b (Int.toNat i) Send.zero).Time)) ∧ (Ob (o3 (!bif (List.getD a (Int.toNat i) Send.zero).Channel != (List.getD b (Int.toNat i) Send.zero).Channel then true
  else (List.getD a (Int.toNat i) Send.zero).Time != (List.getD b (Int.toNat i) Send.zero).Time)) ∧ (Ob (o3 (!bif (List.getD a (Int.toNat i) Send.zero).Channel != (List.getD b (Int.toNat i) Send.zero).Channel then true
  else (List.getD a (Int.toNat i) Send.zero).Time != (List.getD b (Int.toNat i) Send.zero).Time)) ∧ (Ob (o3 (!bif (List.getD a (Int.toNat i) Send.zero).Channel != (List.getD b (Int.toNat i) Send.zero).Channel then true
  else (List.getD a (Int.toNat i) Send.zero).Time != (List.getD b (Int.toNat i) Send.zero).Time)) ∧ (Ob (on (bif (List.getD a (Int.toNat i) Send.zero).Channel != (List.getD b (Int.toNat i) Send.zero).Channel then true
else (List.getD a (Int.toNat i) Send.zero).Time != (List.getD b (Int.toNat i) Send.zero).Time)) ∧ (cond (bif
    bif (List.getD a (Int.toNat i) Send.zero).Channel != (List.getD b (Int.toNat i) Send.zero).Channel then true
    else (List.getD a (Int.toNat i) Send.zero).Time != (List.getD b (Int.toNat i) Send.zero).Time then
  true
else !r19Same (List.getD a (Int.toNat i) Send.zero).PDU (List.getD b (Int.toNat i) Send.zero).PDU) (r21SameSends.L (false) v) (J (r21SameSends.hd a b (IntKind.wrap IntKind.i64 (i + (1 : Int))))))))))))))))))))))))))))))))))) (r21SameSends.L (true) v))
theorem r21SameSends.st_ok (a : List Send) (b : List Send) (i : Int) (J : St El → Prop) (v : Bool) : evCode (mkCxI Tryd.prog S tab_r21Answer 0 true sum_fIdx) (evFun (mkCxI Tryd.prog S tab_r21Answer 0 true sum_fIdx) 3) (loopB Tryd.prog 29 [true, true, false, true, false]) (r21SameSends.hd a b i) (roundK (C := (mkCxI Tryd.prog S tab_r21Answer 0 true sum_fIdx)) [5, 0, 1] [] J (loopK (mkCxI Tryd.prog S tab_r21Answer 0 true sum_fIdx) 3 29 [true, true, false, true, false] (fun r' H' => Gives r' H' (r21SameSends.res v) (r21SameSends.news v)))) = r21SameSends.st a b i J v := by kernel_rfl
def r21SameSends.rng (a : List Send) (b : List Send) (n0 : Nat) (i : Int) : Prop := 0 ≤ i ∧ i ≤ a.length ∧ (a.length - i).toNat < n0 ∧ a.length = b.length
theorem r21SameSends.lp (a : List Send) (b : List Send) (v : Bool) (n0 : Nat) (i : Int) (hv : v = r21SameSends.go a b n0 i) (h0 : r21SameSends.rng a b n0 i) (st : St El) (q1 : okH [5, 0, 1] [] st = true) (q2 : headS [5, 0, 1] [] st = r21SameSends.hd a b i) : evCode (mkCxI Tryd.prog S tab_r21Answer 0 true sum_fIdx) (evFun (mkCxI Tryd.prog S tab_r21Answer 0 true sum_fIdx) 3) (.loop (loopB Tryd.prog 29 [true, true, false, true, false])) st (loopK (mkCxI Tryd.prog S tab_r21Answer 0 true sum_fIdx) 3 29 [true, true, false, true, false] (fun r' H' => Gives r' H' (r21SameSends.res v) (r21SameSends.news v))) := by
  refine loop_ev (by kernel_rfl) (evFun_mono _ _) [5, 0, 1] [] (X := Nat × Int) (fun x => r21SameSends.hd a b x.2) (fun x => x.1) (fun x => r21SameSends.rng a b x.1 x.2 ∧ v = r21SameSends.go a b x.1 x.2) (n0, i) ⟨q1, q2⟩ ⟨h0, hv⟩ ?_
  clear h0 hv q1 q2
  rintro ⟨n0, i⟩ ⟨hr, hv⟩
  dsimp only at hr hv
  cases n0 with
  | zero => exact absurd hr (by unfold r21SameSends.rng; omega)
  | succ n0 =>
  unfold r21SameSends.rng at hr
  unfold r21SameSends.go at hv
  refine (r21SameSends.st_ok a b i _ _).mpr ?_
  unfold r21SameSends.st
  intro hlen
  revert hv; refine by_cond2 (fun hb hv => ?_) (fun hb hv => ?_)
  refine ⟨⟨?_⟩, ?_⟩; rotate_left
  refine ⟨⟨?_⟩, ?_⟩; rotate_left
  refine ⟨⟨o3_ok _⟩, ?_⟩
  refine ⟨⟨o3_ok _⟩, ?_⟩
  refine ⟨⟨?_⟩, ?_⟩; rotate_left
  refine ⟨⟨o3_ok _⟩, ?_⟩
  refine ⟨⟨o3_ok _⟩, ?_⟩
  refine ⟨⟨o3_ok _⟩, ?_⟩
  refine ⟨⟨o3_ok _⟩, ?_⟩
  refine ⟨⟨?_⟩, ?_⟩; rotate_left
  refine ⟨⟨o3_ok _⟩, ?_⟩
  refine ⟨⟨o3_ok _⟩, ?_⟩
  refine ⟨⟨o3_ok _⟩, ?_⟩
  refine ⟨⟨o3_ok _⟩, ?_⟩
  refine ⟨⟨on_ok _⟩, ?_⟩
  refine ⟨⟨o3_ok _⟩, ?_⟩
  refine ⟨⟨o3_ok _⟩, ?_⟩
  refine ⟨⟨?_⟩, ?_⟩; rotate_left
  refine ⟨⟨o3_ok _⟩, ?_⟩
  refine ⟨⟨o3_ok _⟩, ?_⟩
  refine ⟨⟨o3_ok _⟩, ?_⟩
  refine ⟨⟨o3_ok _⟩, ?_⟩
  refine ⟨⟨?_⟩, ?_⟩; rotate_left
  refine ⟨⟨o3_ok _⟩, ?_⟩
  refine ⟨⟨o3_ok _⟩, ?_⟩
  refine ⟨⟨o3_ok _⟩, ?_⟩
  refine ⟨⟨o3_ok _⟩, ?_⟩
  refine ⟨⟨o3_ok _⟩, ?_⟩
  refine ⟨⟨on_ok _⟩, ?_⟩
  revert hv; refine by_cond2 (fun hb hv => ?_) (fun hb hv => ?_)
  subst hv; exact ⟨rfl, rfl⟩
  exact ⟨(n0, (IntKind.wrap IntKind.i64 (i + (1 : Int)))), (by kernel_rfl), Nat.lt_succ_self n0, (by dsimp only; unfold r21SameSends.rng; (try clear hv); (try clear q1 q2); (try clear hk); (try simp only [decide_eq_true_eq, decide_eq_false_iff_not, Bool.not_eq_true, Bool.not_eq_false, Bool.and_eq_true, Bool.or_eq_true, Bool.not_not, cond_and, cond_or, List.length_append, List.length_cons, List.length_nil] at *); have := wi64s (i + (1 : Int)); omega), hv⟩
  subst hv; exact ⟨rfl, rfl⟩
  all_goals ((try clear hv); (try clear q1 q2); (try clear hk); (first | omega | (simp only [advOwn_eq] at *; (first | assumption | omega)) | ((try simp only [decide_eq_true_eq, decide_eq_false_iff_not, Bool.not_eq_true, Bool.not_eq_false, Bool.and_eq_true, Bool.or_eq_true, Bool.not_not, cond_and, cond_or, List.length_append, List.length_cons, List.length_nil] at *); (first | done | ((first | omega | (intros; (try simp only [Bool.not_not, cond_and, cond_or, Bool.and_eq_true, decide_eq_true_eq] at *); (refine ⟨?_, pFind_lt _ _⟩; (first | omega | (simp_all; done)))) | (intros; (try simp only [Bool.not_not, cond_and, cond_or, Bool.and_eq_true, decide_eq_true_eq] at *); (refine ⟨?_, r9Find_lt _ _⟩; (first | omega | (simp_all; done)))) | (intros; (try simp only [Bool.not_not, cond_and, cond_or, Bool.and_eq_true, decide_eq_true_eq] at *); (exact ⟨by decide, by simp⟩)) | (intros; (try simp only [Bool.not_not, cond_and, cond_or, Bool.and_eq_true, decide_eq_true_eq] at *); (exact band_nn rfl _ _)) | (intros; (try simp only [Bool.not_not, cond_and, cond_or, Bool.and_eq_true, decide_eq_true_eq] at *); (exact (wu64s _).2.1)) | (intros; (try simp only [Bool.not_not, cond_and, cond_or, Bool.and_eq_true, decide_eq_true_eq] at *); (simp only [Bool.or_eq_false_iff, Bool.and_eq_false_iff, decide_eq_false_iff_not, decide_eq_true_eq, bne_iff_ne, beq_iff_eq, bne_eq_false_iff_eq, beq_eq_false_iff_ne, ne_eq, true_and] at *; omega)) | (intros; (try simp only [Bool.not_not, cond_and, cond_or, Bool.and_eq_true, decide_eq_true_eq] at *); (simp only [List.length_drop, List.length_take, List.length_append, List.length_cons, List.length_nil] at *; omega)) | (intros; omega) | (intros; simp only [Bool.not_not, cond_and, cond_or, Bool.and_eq_true, decide_eq_true_eq] at *; omega) | (intros; simp_all [Bool.not_not]; done)))))))
def r21SameSends (a : List Send) (b : List Send) : Bool := cond ((↑(List.length a) : Int) != (↑(List.length b) : Int)) (false) (r21SameSends.go a b (a.length + 1) ((0 : Int)))
def r21SameSends.dec (cs : List (AV El)) : Option ((List Send) × (List Send)) := popS 63 cs fun a0 c0 => popS 63 c0 fun a1 c1 => popE c1 (a0, a1)
def r21SameSends.enc (x : (List Send) × (List Send)) : List (AV El) := [.sl 63 (x.1 : List (El 63)) false, .sl 63 (x.2 : List (El 63)) false]
theorem r21SameSends.dec_ok : ∀ cs x, r21SameSends.dec cs = some x → Imp (S := S) cs (r21SameSends.enc x) := by
  intro cs x h
  unfold r21SameSends.dec at h
  obtain ⟨a0, c0, h0, k0⟩ := popS_some (S := S) (t := 63) h
  obtain ⟨a1, c1, h1, k1⟩ := popS_some (S := S) (t := 63) h0
  obtain ⟨rfl, rfl⟩ := popE_some (S := S) h1
  exact (k0 _ (k1 _ (.refl _)))
def r21SameSends.nf (a : List Send) (b : List Send) (v : Bool) : Prop := (List.length a ≤ (9223372036854775807 : Nat)) → ((List.length b ≤ (9223372036854775807 : Nat)) → (cond ((↑(List.length a) : Int) != (↑(List.length b) : Int)) (r21SameSends.L (false) v) (evCode (mkCxI Tryd.prog S tab_r21Answer 0 true sum_fIdx) (evFun (mkCxI Tryd.prog S tab_r21Answer 0 true sum_fIdx) 3) (.loop (loopB Tryd.prog 29 [true, true, false, true, false])) ({ lo := 0, slots := [(5, .v (.int .i64 (0))), (10, .v (.bool (false))), (10, .v (.bool ((↑(List.length a) : Int) != (↑(List.length b) : Int)))), (9, .v (.int .i64 ((↑(List.length b) : Int)))), (8, .sl 63 (b : List (El 63)) false), (7, .v (.int .i64 ((↑(List.length a) : Int)))), (6, .sl 63 (a : List (El 63)) false), (4, .v (.bool (false))), (0, .sl 63 (a : List (El 63)) false), (1, .sl 63 (b : List (El 63)) false)], n := 55, objs := [] }) (loopK (mkCxI Tryd.prog S tab_r21Answer 0 true sum_fIdx) 3 29 [true, true, false, true, false] (fun r' H' => Gives r' H' (r21SameSends.res v) (r21SameSends.news v))))))
theorem r21SameSends.nf_ok (a : List Send) (b : List Send) (v : Bool) : evFun (mkCxI Tryd.prog S tab_r21Answer 0 true sum_fIdx) 4 29 [.sl 63 (a : List (El 63)) false, .sl 63 (b : List (El 63)) false] [] (fun r' H' => Gives r' H' (r21SameSends.res v) (r21SameSends.news v)) = r21SameSends.nf a b v := by kernel_rfl
theorem r21SameSends.key (a : List Send) (b : List Send) (v : Bool) (hv : v = r21SameSends a b) : r21SameSends.nf a b v := by
  unfold r21SameSends at hv
  unfold r21SameSends.nf
  intro hlen
  intro hlen
  revert hv; refine by_cond2 (fun hb hv => ?_) (fun hb hv => ?_)
  · subst hv; exact ⟨rfl, rfl⟩
  · exact r21SameSends.lp a b v _ _ hv (by unfold r21SameSends.rng; (try clear hv); (try clear q1 q2); (try clear hk); ((try simp only [bne_eq_false_iff_eq] at *); omega)) _ (by kernel_rfl) (by kernel_rfl)
def r21SameSends.ct : Ct El := ctOf r21SameSends.dec (fun _ => []) (fun x => r21SameSends.res (r21SameSends x.1 x.2)) (fun x => r21SameSends.news (r21SameSends x.1 x.2))
theorem r21SameSends.ok : CtOk (mkCx Tryd.prog S [] 0) 29 r21SameSends.ct := ct_mk (C := (mkCxI Tryd.prog S tab_r21Answer 0 true sum_fIdx)) (mkCxI_ok sigOk mixed tab_r21Answer_ok 0 true sum_fIdx_ok) r21SameSends.dec_ok (fun x => rfl) 4 (fun x _ => (r21SameSends.nf_ok x.1 x.2 _).mpr (r21SameSends.key x.1 x.2 _ rfl))
def tab_r21SameSends : List (FuncId × Ct El) := (29, r21SameSends.ct) :: tab_r21Answer
theorem tab_r21SameSends_ok : TabOk Tryd.prog S tab_r21SameSends := ⟨r21SameSends.ok, by kernel_rfl, tab_r21Answer_ok⟩
end Go.Aw.W
