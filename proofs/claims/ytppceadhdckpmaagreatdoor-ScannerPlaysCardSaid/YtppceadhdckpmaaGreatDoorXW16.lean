/- Contracts of the seat (printed by ct.py). -/
import Derived.Test.YtppceadhdckpmaaGreatDoorXW15
set_option linter.unusedVariables false
set_option linter.unusedSimpArgs false
set_option maxRecDepth 20000
set_option maxHeartbeats 1000000
namespace Go.Aw.W
open Go Go.Aw Go.Proofs
attribute [local irreducible] evCode evFun evOps evDs evOne ctxK loopK loopB subC bodyC headS okH roundK
def r12Check.res (r:Int): AV El:=.v (.int .i64 (r))
def r12Check.news (r:Int): List (AObj El):= []
def r12Check.L (e v:Int): Prop:=r12Check.res e=r12Check.res v∧r12Check.news e=r12Check.news v
def r12Check (m:Int): Int:=cond (decide (r1Power (37:Int)≤m)) ((5:Int)) (cond (decide (r12Count m < (2:Int))) ((1:Int)) ((0:Int)))
def r12Check.dec (cs:List (AV El)): Option (Int):= popI .u64 cs fun a0 c0=>popE c0 a0
def r12Check.enc (x:Int): List (AV El):= [.v (.int .u64 x)]
theorem r12Check.dec_ok : ∀cs x,r12Check.dec cs=some x→Imp (S:=S) cs (r12Check.enc x):= by
 intro cs x h
 unfold r12Check.dec at h
 obtain ⟨a0,c0,rfl,h0⟩:= popI_some (S:=S) h
 obtain ⟨rfl,rfl⟩:= popE_some (S:=S) h0
 exact (.cons (.refl _))
def r12Check.nf (m:Int) (v:Int): Prop:=Ob ((37:Int)≤(9223372036854775807:Int))∧(cond (decide (r1Power (37:Int)≤m)) (r12Check.L ((5:Int)) v) (cond (decide (r12Count m < (2:Int))) (r12Check.L ((1:Int)) v) (r12Check.L ((0:Int)) v)))
theorem r12Check.nf_ok (m:Int) (v:Int): evFun (mkCxI Tryz.prog S tab_r12Count 0 false sum_fIdx) 4 78 [.v (.int .u64 m)] [] (fun r' H'=>Gives r' H' (r12Check.res v) (r12Check.news v))= r12Check.nf m v:=by kernel_rfl
theorem r12Check.key (m:Int) (v:Int) (hv:v=r12Check m): r12Check.nf m v:=by
 unfold r12Check at hv
 unfold r12Check.nf
 refine ⟨⟨by (try clear hv);(try clear q1 q2);(try clear hk);(first | omega | ((try simp only [decide_eq_true_eq,decide_eq_false_iff_not,Bool.not_eq_true,Bool.not_eq_false,Bool.and_eq_true,Bool.or_eq_true,Bool.not_not,cond_and,cond_or,List.length_append,List.length_cons,List.length_nil] at *);(first | done | ((first | omega | (intros;(try simp only [Bool.not_not,cond_and,cond_or,Bool.and_eq_true,decide_eq_true_eq] at *);(exact band_nn rfl _ _))| (intros;(try simp only [Bool.not_not,cond_and,cond_or,Bool.and_eq_true,decide_eq_true_eq] at *);(exact (wu64s _).2.1))| (intros;(try simp only [Bool.not_not,cond_and,cond_or,Bool.and_eq_true,decide_eq_true_eq] at *);(simp only [Bool.or_eq_false_iff,Bool.and_eq_false_iff,decide_eq_false_iff_not,decide_eq_true_eq,bne_iff_ne,beq_iff_eq,bne_eq_false_iff_eq,beq_eq_false_iff_ne,ne_eq,true_and] at *;omega))| (intros;(try simp only [Bool.not_not,cond_and,cond_or,Bool.and_eq_true,decide_eq_true_eq] at *);(simp only [List.length_drop,List.length_take,List.length_append,List.length_cons,List.length_nil] at *;omega))| (intros;omega)| (intros;simp only [Bool.not_not,cond_and,cond_or,Bool.and_eq_true,decide_eq_true_eq] at *;omega)| (intros;simp_all [Bool.not_not];done))))))⟩, ?_⟩
 revert hv;refine by_cond2 (fun hb hv=>?_) (fun hb hv=>?_)
 ·subst hv;exact ⟨rfl,rfl⟩
 ·revert hv;refine by_cond2 (fun hb hv=>?_) (fun hb hv=>?_)
  ·subst hv;exact ⟨rfl,rfl⟩
  ·subst hv;exact ⟨rfl,rfl⟩
def r12Check.ct:Ct El:=ctOf r12Check.dec (fun _=>[]) (fun x=>r12Check.res (r12Check x)) (fun x=>r12Check.news (r12Check x))
theorem r12Check.ok:CtOk (mkCx Tryz.prog S [] 0) 78 r12Check.ct:=ct_mk (C:=(mkCxI Tryz.prog S tab_r12Count 0 false sum_fIdx)) (mkCxI_ok sigOk mixed tab_r12Count_ok 0 false sum_fIdx_ok) r12Check.dec_ok (fun x=>rfl) 4 (fun x _=>(r12Check.nf_ok x _).mpr (r12Check.key x _ rfl))
def tab_r12Check:List (FuncId×Ct El):= (78,r12Check.ct):: tab_r12Count
theorem tab_r12Check_ok:TabOk Tryz.prog S tab_r12Check:=⟨r12Check.ok,by kernel_rfl,tab_r12Count_ok⟩
def cCheck.res (r:Int): AV El:=.v (.int .i64 (r))
def cCheck.news (r:Int): List (AObj El):= []
def cCheck.L (e v:Int): Prop:=cCheck.res e=cCheck.res v∧cCheck.news e=cCheck.news v
def cCheck (p:ConnParams): Int:=cond (bif p.Access==(0:Int) then true else p.Access==(2391391958:Int)) ((1:Int)) (cond (decide ((16777216:Int)≤p.Init)) ((5:Int)) (cond (cCheckUpdate p.Update != (0:Int)) (cCheckUpdate p.Update) (cond (kCheck p.Map != (0:Int)) (kCheck p.Map) (cond (!cwithin [{n:=p.Hop,low:=(5:Int),high:=(16:Int): ConnectSpan},{n:=p.PPM,low:=(0:Int),high:=(500:Int): ConnectSpan}]) ((5:Int)) (cond (bif p.Algorithm != (1:Int) then p.Algorithm != (2:Int) else false) ((12:Int)) ((0:Int)))))))
def cCheck.dec (cs:List (AV El)): Option (ConnParams):= popA ConnParams.dec cs fun a0 c0=>popE c0 a0
def cCheck.enc (x:ConnParams): List (AV El):= [ConnParams.av x]
theorem cCheck.dec_ok : ∀cs x,cCheck.dec cs=some x→Imp (S:=S) cs (cCheck.enc x):= by
 intro cs x h
 unfold cCheck.dec at h
 obtain ⟨a0,c0,h0,k0⟩:= popA_some (S:=S) ConnParams.dec_ok h
 obtain ⟨rfl,rfl⟩:= popE_some (S:=S) h0
 exact (k0 _ (.refl _))
def cCheck.nf (p:ConnParams) (v:Int): Prop:=Ob (o3 (!p.Access==(0:Int)))∧(Ob (o3 (!p.Access==(0:Int)))∧(Ob (on (p.Access==(0:Int)))∧(cond (bif p.Access==(0:Int) then true else p.Access==(2391391958:Int)) (cCheck.L ((1:Int)) v) (cond (decide ((16777216:Int)≤p.Init)) (cCheck.L ((5:Int)) v) (cond (cCheckUpdate p.Update != (0:Int)) (cCheck.L (cCheckUpdate p.Update) v) (cond (kCheck p.Map != (0:Int)) (cCheck.L (kCheck p.Map) v) (cond (!cwithin [{n:=p.Hop,low:=(5:Int),high:=(16:Int): ConnectSpan},{n:=p.PPM,low:=(0:Int),high:=(500:Int): ConnectSpan}]) (cCheck.L ((5:Int)) v) (Ob (o3 (p.Algorithm != (1:Int)))∧(Ob (o3 (p.Algorithm != (1:Int)))∧(Ob (o2 (p.Algorithm != (1:Int)))∧(cond (bif p.Algorithm != (1:Int) then p.Algorithm != (2:Int) else false) (cCheck.L ((12:Int)) v) (cCheck.L ((0:Int)) v))))))))))))
theorem cCheck.nf_ok (p:ConnParams) (v:Int): evFun (mkCxI Tryz.prog S tab_r12Count 0 false sum_fIdx) 4 59 [ConnParams.av p] [] (fun r' H'=>Gives r' H' (cCheck.res v) (cCheck.news v))= cCheck.nf p v:=by kernel_rfl
theorem cCheck.key (p:ConnParams) (v:Int) (hv:v=cCheck p): cCheck.nf p v:=by
 unfold cCheck at hv
 unfold cCheck.nf
 iterate 2 refine ⟨⟨o3_ok _⟩, ?_⟩
 refine ⟨⟨on_ok _⟩, ?_⟩
 revert hv;refine by_cond2 (fun hb hv=>?_) (fun hb hv=>?_)
 ·subst hv;exact ⟨rfl,rfl⟩
 ·revert hv;refine by_cond2 (fun hb hv=>?_) (fun hb hv=>?_)
  ·subst hv;exact ⟨rfl,rfl⟩
  ·revert hv;refine by_cond2 (fun hb hv=>?_) (fun hb hv=>?_)
   ·subst hv;exact ⟨rfl,rfl⟩
   ·revert hv;refine by_cond2 (fun hb hv=>?_) (fun hb hv=>?_)
    ·subst hv;exact ⟨rfl,rfl⟩
    ·revert hv;refine by_cond2 (fun hb hv=>?_) (fun hb hv=>?_)
     ·subst hv;exact ⟨rfl,rfl⟩
     ·refine ⟨⟨o3_ok _⟩, ?_⟩
      refine ⟨⟨o3_ok _⟩, ?_⟩
      refine ⟨⟨o2_ok _⟩, ?_⟩
      revert hv;refine by_cond2 (fun hb hv=>?_) (fun hb hv=>?_)
      ·subst hv;exact ⟨rfl,rfl⟩
      ·subst hv;exact ⟨rfl,rfl⟩
def cCheck.ct:Ct El:=ctOf cCheck.dec (fun _=>[]) (fun x=>cCheck.res (cCheck x)) (fun x=>cCheck.news (cCheck x))
theorem cCheck.ok:CtOk (mkCx Tryz.prog S [] 0) 59 cCheck.ct:=ct_mk (C:=(mkCxI Tryz.prog S tab_r12Count 0 false sum_fIdx)) (mkCxI_ok sigOk mixed tab_r12Count_ok 0 false sum_fIdx_ok) cCheck.dec_ok (fun x=>rfl) 4 (fun x _=>(cCheck.nf_ok x _).mpr (cCheck.key x _ rfl))
def tab_cCheck:List (FuncId×Ct El):= (59,cCheck.ct):: tab_r12Check
theorem tab_cCheck_ok:TabOk Tryz.prog S tab_cCheck:=⟨cCheck.ok,by kernel_rfl,tab_r12Check_ok⟩
def r17Check.res (r:Int): AV El:=.v (.int .i64 (r))
def r17Check.news (r:Int): List (AObj El):= []
def r17Check.L (e v:Int): Prop:=r17Check.res e=r17Check.res v∧r17Check.news e=r17Check.news v
def r17Check (p:ConnParams): Int:=cond (bif p.Access==(0:Int) then true else p.Access==(2391391958:Int)) ((1:Int)) (cond (decide ((16777216:Int)≤p.Init)) ((5:Int)) (cond (r17CheckUpdate p.Update != (0:Int)) (r17CheckUpdate p.Update) (cond (r12Check p.Map != (0:Int)) (r12Check p.Map) (cond (bif !r17within p.Hop (5:Int) (16:Int) then true else !r17within p.PPM (0:Int) (500:Int)) ((5:Int)) (cond (bif p.Algorithm != (1:Int) then p.Algorithm != (2:Int) else false) ((12:Int)) ((0:Int)))))))
def r17Check.dec (cs:List (AV El)): Option (ConnParams):= popA ConnParams.dec cs fun a0 c0=>popE c0 a0
def r17Check.enc (x:ConnParams): List (AV El):= [ConnParams.av x]
theorem r17Check.dec_ok : ∀cs x,r17Check.dec cs=some x→Imp (S:=S) cs (r17Check.enc x):= by
 intro cs x h
 unfold r17Check.dec at h
 obtain ⟨a0,c0,h0,k0⟩:= popA_some (S:=S) ConnParams.dec_ok h
 obtain ⟨rfl,rfl⟩:= popE_some (S:=S) h0
 exact (k0 _ (.refl _))
def r17Check.nf (p:ConnParams) (v:Int): Prop:=Ob (o3 (!p.Access==(0:Int)))∧(Ob (o3 (!p.Access==(0:Int)))∧(Ob (on (p.Access==(0:Int)))∧(cond (bif p.Access==(0:Int) then true else p.Access==(2391391958:Int)) (r17Check.L ((1:Int)) v) (cond (decide ((16777216:Int)≤p.Init)) (r17Check.L ((5:Int)) v) (cond (r17CheckUpdate p.Update != (0:Int)) (r17Check.L (r17CheckUpdate p.Update) v) (cond (r12Check p.Map != (0:Int)) (r17Check.L (r12Check p.Map) v) (Ob (o3 (!!r17within p.Hop (5:Int) (16:Int)))∧(Ob (o3 (!!r17within p.Hop (5:Int) (16:Int)))∧(Ob (o3 (!!r17within p.Hop (5:Int) (16:Int)))∧(Ob (on (!r17within p.Hop (5:Int) (16:Int)))∧(cond (bif !r17within p.Hop (5:Int) (16:Int) then true else !r17within p.PPM (0:Int) (500:Int)) (r17Check.L ((5:Int)) v) (Ob (o3 (p.Algorithm != (1:Int)))∧(Ob (o3 (p.Algorithm != (1:Int)))∧(Ob (o2 (p.Algorithm != (1:Int)))∧(cond (bif p.Algorithm != (1:Int) then p.Algorithm != (2:Int) else false) (r17Check.L ((12:Int)) v) (r17Check.L ((0:Int)) v))))))))))))))))
theorem r17Check.nf_ok (p:ConnParams) (v:Int): evFun (mkCxI Tryz.prog S tab_cCheck 0 false sum_fIdx) 4 65 [ConnParams.av p] [] (fun r' H'=>Gives r' H' (r17Check.res v) (r17Check.news v))= r17Check.nf p v:=by kernel_rfl
theorem r17Check.key (p:ConnParams) (v:Int) (hv:v=r17Check p): r17Check.nf p v:=by
 unfold r17Check at hv
 unfold r17Check.nf
 iterate 2 refine ⟨⟨o3_ok _⟩, ?_⟩
 refine ⟨⟨on_ok _⟩, ?_⟩
 revert hv;refine by_cond2 (fun hb hv=>?_) (fun hb hv=>?_)
 ·subst hv;exact ⟨rfl,rfl⟩
 ·revert hv;refine by_cond2 (fun hb hv=>?_) (fun hb hv=>?_)
  ·subst hv;exact ⟨rfl,rfl⟩
  ·revert hv;refine by_cond2 (fun hb hv=>?_) (fun hb hv=>?_)
   ·subst hv;exact ⟨rfl,rfl⟩
   ·revert hv;refine by_cond2 (fun hb hv=>?_) (fun hb hv=>?_)
    ·subst hv;exact ⟨rfl,rfl⟩
    ·refine ⟨⟨o3_ok _⟩, ?_⟩
     iterate 2 refine ⟨⟨o3_ok _⟩, ?_⟩
     refine ⟨⟨on_ok _⟩, ?_⟩
     revert hv;refine by_cond2 (fun hb hv=>?_) (fun hb hv=>?_)
     ·subst hv;exact ⟨rfl,rfl⟩
     ·refine ⟨⟨o3_ok _⟩, ?_⟩
      refine ⟨⟨o3_ok _⟩, ?_⟩
      refine ⟨⟨o2_ok _⟩, ?_⟩
      revert hv;refine by_cond2 (fun hb hv=>?_) (fun hb hv=>?_)
      ·subst hv;exact ⟨rfl,rfl⟩
      ·subst hv;exact ⟨rfl,rfl⟩
def r17Check.ct:Ct El:=ctOf r17Check.dec (fun _=>[]) (fun x=>r17Check.res (r17Check x)) (fun x=>r17Check.news (r17Check x))
theorem r17Check.ok:CtOk (mkCx Tryz.prog S [] 0) 65 r17Check.ct:=ct_mk (C:=(mkCxI Tryz.prog S tab_cCheck 0 false sum_fIdx)) (mkCxI_ok sigOk mixed tab_cCheck_ok 0 false sum_fIdx_ok) r17Check.dec_ok (fun x=>rfl) 4 (fun x _=>(r17Check.nf_ok x _).mpr (r17Check.key x _ rfl))
def tab_r17Check:List (FuncId×Ct El):= (65,r17Check.ct):: tab_cCheck
theorem tab_r17Check_ok:TabOk Tryz.prog S tab_r17Check:=⟨r17Check.ok,by kernel_rfl,tab_cCheck_ok⟩
end Go.Aw.W
