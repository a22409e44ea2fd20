/- Contracts of the seat (printed by ct.py). -/
import Derived.Test.YtppceadhdckpmaaDoorXW42
set_option linter.unusedVariables false
set_option linter.unusedSimpArgs false
set_option maxRecDepth 20000
set_option maxHeartbeats 1000000
namespace Go.Aw.W
open Go Go.Aw Go.Proofs
attribute [local irreducible] evCode evFun evOps evDs evOne ctxK loopK loopB subC bodyC headS okH roundK
def advStart.res (r:Advertiser×Int): AV El:=.tup [Advertiser.av (r.1), .v (.int .i64 (r.2))]
def advStart.news (r:Advertiser×Int): List (AObj El):= []
def advStart.L (e v:Advertiser×Int): Prop:=advStart.res e=advStart.res v∧advStart.news e=advStart.news v
def advStart (p:AdvParams) (p1:Int): Advertiser×Int:=cond (advCheck p != (0:Int)) (((⟨⟨((0:Int)),((0:Int)),⟨((0:Int)),((0:Int))⟩,⟨((0:Int)),((0:Int))⟩,([]),([]),((0:Int)),([]),([]),((0:Int))⟩,(false),((0:Int)),((0:Int))⟩: Advertiser),advCheck p)) (((advOwn {Params:=p,On:=true,Event:=(0:Int),Next:=advMoment p1:Advertiser}),(0:Int)))
def advStart.dec (cs:List (AV El)): Option (AdvParams×Int):= popA AdvParams.dec cs fun a0 c0=>popI .i64 c0 fun a1 c1=>popE c1 (a0,a1)
def advStart.enc (x:AdvParams×Int): List (AV El):= [AdvParams.av x.1, .v (.int .i64 x.2)]
theorem advStart.dec_ok : ∀cs x,advStart.dec cs=some x→Imp (S:=S) cs (advStart.enc x):= by
 intro cs x h
 unfold advStart.dec at h
 obtain ⟨a0,c0,h0,k0⟩:= popA_some (S:=S) AdvParams.dec_ok h
 obtain ⟨a1,c1,rfl,h1⟩:= popI_some (S:=S) h0
 obtain ⟨rfl,rfl⟩:= popE_some (S:=S) h1
 exact (k0 _ (.cons (.refl _)))
def advStart.nf (p:AdvParams) (p1:Int) (v:Advertiser×Int): Prop:=Ob (List.length p.Data≤(140737488355328:Nat)∧List.length p.Scan≤(140737488355328:Nat)∧List.length p.Accept≤(4611686018427:Nat)∧List.length p.Identities≤(4611686018427:Nat))∧(cond (advCheck p != (0:Int)) (advStart.L (((⟨⟨((0:Int)),((0:Int)),⟨((0:Int)),((0:Int))⟩,⟨((0:Int)),((0:Int))⟩,([]),([]),((0:Int)),([]),([]),((0:Int))⟩,(false),((0:Int)),((0:Int))⟩: Advertiser),advCheck p)) v) (Ob (List.length p.Data≤(140737488355328:Nat)∧List.length p.Scan≤(140737488355328:Nat)∧List.length p.Accept≤(4611686018427:Nat)∧List.length p.Identities≤(4611686018427:Nat))∧(advStart.L (((advOwn {Params:=p,On:=true,Event:=(0:Int),Next:=advMoment p1:Advertiser}),(0:Int))) v)))
theorem advStart.nf_ok (p:AdvParams) (p1:Int) (v:Advertiser×Int): evFun (mkCxI Tryd.prog S tab_advCheck 0 false sum_fIdx) 4 16 [AdvParams.av p, .v (.int .i64 p1)] [] (fun r' H'=>Gives r' H' (advStart.res v) (advStart.news v))= advStart.nf p p1 v:=by kernel_rfl
theorem advStart.key (p:AdvParams) (p1:Int) (hp:p.Data.length≤140737488355328∧p.Scan.length≤140737488355328∧p.Accept.length≤4611686018427∧p.Identities.length≤4611686018427) (v:Advertiser×Int) (hv:v=advStart p p1): advStart.nf p p1 v:=by
 unfold advStart at hv
 unfold advStart.nf
 refine ⟨⟨?_⟩, ?_⟩;rotate_left
 revert hv;refine by_cond2 (fun hb hv=>?_) (fun hb hv=>?_)
 subst hv;exact ⟨rfl,rfl⟩
 refine ⟨⟨?_⟩, ?_⟩;rotate_left
 subst hv;exact ⟨rfl,rfl⟩
 all_goals ((try clear hv);(try clear q1 q2);(try clear hk);(first | omega | ((try simp only [decide_eq_true_eq,decide_eq_false_iff_not,Bool.not_eq_true,Bool.not_eq_false,Bool.and_eq_true,Bool.or_eq_true,Bool.not_not,cond_and,cond_or,List.length_append,List.length_cons,List.length_nil] at *);(first | done | ((first | omega | (intros;(try simp only [Bool.not_not,cond_and,cond_or,Bool.and_eq_true,decide_eq_true_eq] at *);(exact ⟨by decide,by simp⟩))| (intros;(try simp only [Bool.not_not,cond_and,cond_or,Bool.and_eq_true,decide_eq_true_eq] at *);(exact band_nn rfl _ _))| (intros;(try simp only [Bool.not_not,cond_and,cond_or,Bool.and_eq_true,decide_eq_true_eq] at *);(exact (wu64s _).2.1))| (intros;(try simp only [Bool.not_not,cond_and,cond_or,Bool.and_eq_true,decide_eq_true_eq] at *);(simp only [Bool.or_eq_false_iff,Bool.and_eq_false_iff,decide_eq_false_iff_not,decide_eq_true_eq,bne_iff_ne,beq_iff_eq,bne_eq_false_iff_eq,beq_eq_false_iff_ne,ne_eq,true_and] at *;omega))| (intros;(try simp only [Bool.not_not,cond_and,cond_or,Bool.and_eq_true,decide_eq_true_eq] at *);(simp only [List.length_drop,List.length_take,List.length_append,List.length_cons,List.length_nil] at *;omega))| (intros;omega)| (intros;simp only [Bool.not_not,cond_and,cond_or,Bool.and_eq_true,decide_eq_true_eq] at *;omega)| (intros;simp_all [Bool.not_not];done)))))))
def advStart.ct:Ct El:=ctOf advStart.dec (fun x=>[x.1.Data.length≤140737488355328∧x.1.Scan.length≤140737488355328∧x.1.Accept.length≤4611686018427∧x.1.Identities.length≤4611686018427]) (fun x=>advStart.res (advStart x.1 x.2)) (fun x=>advStart.news (advStart x.1 x.2))
theorem advStart.ok:CtOk (mkCx Tryd.prog S [] 0) 16 advStart.ct:=ct_mk (C:=(mkCxI Tryd.prog S tab_advCheck 0 false sum_fIdx)) (mkCxI_ok sigOk mixed tab_advCheck_ok 0 false sum_fIdx_ok) advStart.dec_ok (fun x=>rfl) 4 (fun x hp=>(advStart.nf_ok x.1 x.2 _).mpr (advStart.key x.1 x.2 (hp _ (List.mem_singleton.2 rfl)) _ rfl))
def tab_advStart:List (FuncId×Ct El):= (16,advStart.ct):: tab_advCheck
theorem tab_advStart_ok:TabOk Tryd.prog S tab_advStart:=⟨advStart.ok,by kernel_rfl,tab_advCheck_ok⟩
end Go.Aw.W
