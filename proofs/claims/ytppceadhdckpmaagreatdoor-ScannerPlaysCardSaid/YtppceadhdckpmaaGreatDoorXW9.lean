/- Contracts of the seat (printed by ct.py). -/
import Derived.Test.YtppceadhdckpmaaGreatDoorXW8
set_option linter.unusedVariables false
set_option linter.unusedSimpArgs false
set_option maxRecDepth 20000
set_option maxHeartbeats 1000000
namespace Go.Aw.W
open Go Go.Aw Go.Proofs
attribute [local irreducible] evCode evFun evOps evDs evOne ctxK loopK loopB subC bodyC headS okH roundK
def pResolves.res (r:Bool): AV El:=.v (.bool (r))
def pResolves.news (r:Bool): List (AObj El):= []
def pResolves.L (e v:Bool): Prop:=pResolves.res e=pResolves.res v∧pResolves.news e=pResolves.news v
def pResolves (irk:Int) (a:Address): Bool:=cond (bif bif irk==(0:Int) then true else a.Kind != (3:Int) then true else aCheck a != (0:Int)) (false) (bandK IntKind.u64 a.Bits (16777215:Int)== pHash irk (bandK IntKind.u64 (shrK IntKind.u64 a.Bits (24:Int)) (4194303:Int)))
def pResolves.dec (cs:List (AV El)): Option (Int×Address):= popI .u64 cs fun a0 c0=>popA Address.dec c0 fun a1 c1=>popE c1 (a0,a1)
def pResolves.enc (x:Int×Address): List (AV El):= [.v (.int .u64 x.1),Address.av x.2]
theorem pResolves.dec_ok : ∀cs x,pResolves.dec cs=some x→Imp (S:=S) cs (pResolves.enc x):= by
 intro cs x h
 unfold pResolves.dec at h
 obtain ⟨a0,c0,rfl,h0⟩:= popI_some (S:=S) h
 obtain ⟨a1,c1,h1,k1⟩:= popA_some (S:=S) Address.dec_ok h0
 obtain ⟨rfl,rfl⟩:= popE_some (S:=S) h1
 exact (.cons (k1 _ (.refl _)))
def pResolves.nf (irk:Int) (a:Address) (v:Bool): Prop:=Ob (o3 (!irk==(0:Int)))∧(Ob (o3 (!irk==(0:Int)))∧(Ob (on (irk==(0:Int)))∧(Ob (o3 (!bif irk==(0:Int) then true else a.Kind != (3:Int)))∧(Ob (o3 (!bif irk==(0:Int) then true else a.Kind != (3:Int)))∧(Ob (on (bif irk==(0:Int) then true else a.Kind != (3:Int)))∧(cond (bif bif irk==(0:Int) then true else a.Kind != (3:Int) then true else aCheck a != (0:Int)) (pResolves.L (false) v) (Ob ((0:Int)≤(24:Int))∧(pResolves.L (bandK IntKind.u64 a.Bits (16777215:Int)== pHash irk (bandK IntKind.u64 (shrK IntKind.u64 a.Bits (24:Int)) (4194303:Int))) v))))))))
theorem pResolves.nf_ok (irk:Int) (a:Address) (v:Bool): evFun (mkCx Tryz.prog S tab_r9Hash 0) 4 62 [.v (.int .u64 irk),Address.av a] [] (fun r' H'=>Gives r' H' (pResolves.res v) (pResolves.news v))= pResolves.nf irk a v:=by kernel_rfl
theorem pResolves.key (irk:Int) (a:Address) (v:Bool) (hv:v=pResolves irk a): pResolves.nf irk a v:=by
 unfold pResolves at hv
 unfold pResolves.nf
 iterate 2 refine ⟨⟨o3_ok _⟩, ?_⟩
 refine ⟨⟨on_ok _⟩, ?_⟩
 iterate 2 refine ⟨⟨o3_ok _⟩, ?_⟩
 refine ⟨⟨on_ok _⟩, ?_⟩
 revert hv;refine by_cond2 (fun hb hv=>?_) (fun hb hv=>?_)
 ·subst hv;exact ⟨rfl,rfl⟩
 ·refine ⟨⟨by (try clear hv);(try clear q1 q2);(try clear hk);(first | omega | ((try simp only [decide_eq_true_eq,decide_eq_false_iff_not,Bool.not_eq_true,Bool.not_eq_false,Bool.and_eq_true,Bool.or_eq_true,Bool.not_not,cond_and,cond_or,List.length_append,List.length_cons,List.length_nil] at *);(first | done | ((first | omega | (intros;(try simp only [Bool.not_not,cond_and,cond_or,Bool.and_eq_true,decide_eq_true_eq] at *);(exact ⟨by decide,by simp⟩))| (intros;(try simp only [Bool.not_not,cond_and,cond_or,Bool.and_eq_true,decide_eq_true_eq] at *);(exact pDerive_len _ _ (by omega) (by omega)))| (intros;(try simp only [Bool.not_not,cond_and,cond_or,Bool.and_eq_true,decide_eq_true_eq] at *);(exact pDerive_len2 _ _ (by omega) (by omega)))| (intros;(try simp only [Bool.not_not,cond_and,cond_or,Bool.and_eq_true,decide_eq_true_eq] at *);(exact band_nn rfl _ _))| (intros;(try simp only [Bool.not_not,cond_and,cond_or,Bool.and_eq_true,decide_eq_true_eq] at *);(exact (wu64s _).2.1))| (intros;(try simp only [Bool.not_not,cond_and,cond_or,Bool.and_eq_true,decide_eq_true_eq] at *);(simp only [Bool.or_eq_false_iff,Bool.and_eq_false_iff,decide_eq_false_iff_not,decide_eq_true_eq,bne_iff_ne,beq_iff_eq,bne_eq_false_iff_eq,beq_eq_false_iff_ne,ne_eq,true_and] at *;omega))| (intros;(try simp only [Bool.not_not,cond_and,cond_or,Bool.and_eq_true,decide_eq_true_eq] at *);(simp only [List.length_drop,List.length_take,List.length_append,List.length_cons,List.length_nil] at *;omega))| (intros;omega)| (intros;simp only [sized_iff,Bool.not_not,cond_and,cond_or,Bool.and_eq_true,decide_eq_true_eq] at *;omega)| (intros;simp_all [sized_iff,Bool.not_not];done))))))⟩, ?_⟩
  subst hv;exact ⟨rfl,rfl⟩
def pResolves.ct:Ct El:=ctOf pResolves.dec (fun _=>[]) (fun x=>pResolves.res (pResolves x.1 x.2)) (fun x=>pResolves.news (pResolves x.1 x.2))
theorem pResolves.ok:CtOk (mkCx Tryz.prog S [] 0) 62 pResolves.ct:=ct_mk (C:=(mkCx Tryz.prog S tab_r9Hash 0)) (mkCx_ok sigOk mixed tab_r9Hash_ok 0) pResolves.dec_ok (fun x=>rfl) 4 (fun x _=>(pResolves.nf_ok x.1 x.2 _).mpr (pResolves.key x.1 x.2 _ rfl))
def tab_pResolves:List (FuncId×Ct El):= (62,pResolves.ct):: tab_r9Hash
theorem tab_pResolves_ok:TabOk Tryz.prog S tab_pResolves:=⟨pResolves.ok,by kernel_rfl,tab_r9Hash_ok⟩
def r9Resolves.res (r:Bool): AV El:=.v (.bool (r))
def r9Resolves.news (r:Bool): List (AObj El):= []
def r9Resolves.L (e v:Bool): Prop:=r9Resolves.res e=r9Resolves.res v∧r9Resolves.news e=r9Resolves.news v
def r9Resolves (irk:Int) (a:Address): Bool:=cond (bif bif irk==(0:Int) then true else a.Kind != (3:Int) then true else r8Check a != (0:Int)) (false) (Int.tmod a.Bits (16777216:Int)== r9Hash irk (Int.tmod (IntKind.wrap IntKind.u64 (Int.tdiv a.Bits (16777216:Int))) (4194304:Int)))
def r9Resolves.dec (cs:List (AV El)): Option (Int×Address):= popI .u64 cs fun a0 c0=>popA Address.dec c0 fun a1 c1=>popE c1 (a0,a1)
def r9Resolves.enc (x:Int×Address): List (AV El):= [.v (.int .u64 x.1),Address.av x.2]
theorem r9Resolves.dec_ok : ∀cs x,r9Resolves.dec cs=some x→Imp (S:=S) cs (r9Resolves.enc x):= by
 intro cs x h
 unfold r9Resolves.dec at h
 obtain ⟨a0,c0,rfl,h0⟩:= popI_some (S:=S) h
 obtain ⟨a1,c1,h1,k1⟩:= popA_some (S:=S) Address.dec_ok h0
 obtain ⟨rfl,rfl⟩:= popE_some (S:=S) h1
 exact (.cons (k1 _ (.refl _)))
def r9Resolves.nf (irk:Int) (a:Address) (v:Bool): Prop:=Ob (o3 (!irk==(0:Int)))∧(Ob (o3 (!irk==(0:Int)))∧(Ob (on (irk==(0:Int)))∧(Ob (o3 (!bif irk==(0:Int) then true else a.Kind != (3:Int)))∧(Ob (o3 (!bif irk==(0:Int) then true else a.Kind != (3:Int)))∧(Ob (on (bif irk==(0:Int) then true else a.Kind != (3:Int)))∧(cond (bif bif irk==(0:Int) then true else a.Kind != (3:Int) then true else r8Check a != (0:Int)) (r9Resolves.L (false) v) (Ob ((16777216:Int)≠(0:Int))∧(Ob ((16777216:Int)≠(0:Int))∧(Ob ((4194304:Int)≠(0:Int))∧(r9Resolves.L (Int.tmod a.Bits (16777216:Int)== r9Hash irk (Int.tmod (IntKind.wrap IntKind.u64 (Int.tdiv a.Bits (16777216:Int))) (4194304:Int))) v))))))))))
theorem r9Resolves.nf_ok (irk:Int) (a:Address) (v:Bool): evFun (mkCx Tryz.prog S tab_r9Hash 0) 4 67 [.v (.int .u64 irk),Address.av a] [] (fun r' H'=>Gives r' H' (r9Resolves.res v) (r9Resolves.news v))= r9Resolves.nf irk a v:=by kernel_rfl
theorem r9Resolves.key (irk:Int) (a:Address) (v:Bool) (hv:v=r9Resolves irk a): r9Resolves.nf irk a v:=by
 unfold r9Resolves at hv
 unfold r9Resolves.nf
 iterate 2 refine ⟨⟨o3_ok _⟩, ?_⟩
 refine ⟨⟨on_ok _⟩, ?_⟩
 iterate 2 refine ⟨⟨o3_ok _⟩, ?_⟩
 refine ⟨⟨on_ok _⟩, ?_⟩
 revert hv;refine by_cond2 (fun hb hv=>?_) (fun hb hv=>?_)
 subst hv;exact ⟨rfl,rfl⟩
 refine ⟨⟨?_⟩, ?_⟩;rotate_left
 refine ⟨⟨?_⟩, ?_⟩;rotate_left
 refine ⟨⟨?_⟩, ?_⟩;rotate_left
 subst hv;exact ⟨rfl,rfl⟩
 all_goals ((try clear hv);(try clear q1 q2);(try clear hk);(first | omega | ((try simp only [decide_eq_true_eq,decide_eq_false_iff_not,Bool.not_eq_true,Bool.not_eq_false,Bool.and_eq_true,Bool.or_eq_true,Bool.not_not,cond_and,cond_or,List.length_append,List.length_cons,List.length_nil] at *);(first | done | ((first | omega | (intros;(try simp only [Bool.not_not,cond_and,cond_or,Bool.and_eq_true,decide_eq_true_eq] at *);(exact ⟨by decide,by simp⟩))| (intros;(try simp only [Bool.not_not,cond_and,cond_or,Bool.and_eq_true,decide_eq_true_eq] at *);(exact pDerive_len _ _ (by omega) (by omega)))| (intros;(try simp only [Bool.not_not,cond_and,cond_or,Bool.and_eq_true,decide_eq_true_eq] at *);(exact pDerive_len2 _ _ (by omega) (by omega)))| (intros;(try simp only [Bool.not_not,cond_and,cond_or,Bool.and_eq_true,decide_eq_true_eq] at *);(exact band_nn rfl _ _))| (intros;(try simp only [Bool.not_not,cond_and,cond_or,Bool.and_eq_true,decide_eq_true_eq] at *);(exact (wu64s _).2.1))| (intros;(try simp only [Bool.not_not,cond_and,cond_or,Bool.and_eq_true,decide_eq_true_eq] at *);(simp only [Bool.or_eq_false_iff,Bool.and_eq_false_iff,decide_eq_false_iff_not,decide_eq_true_eq,bne_iff_ne,beq_iff_eq,bne_eq_false_iff_eq,beq_eq_false_iff_ne,ne_eq,true_and] at *;omega))| (intros;(try simp only [Bool.not_not,cond_and,cond_or,Bool.and_eq_true,decide_eq_true_eq] at *);(simp only [List.length_drop,List.length_take,List.length_append,List.length_cons,List.length_nil] at *;omega))| (intros;omega)| (intros;simp only [sized_iff,Bool.not_not,cond_and,cond_or,Bool.and_eq_true,decide_eq_true_eq] at *;omega)| (intros;simp_all [sized_iff,Bool.not_not];done)))))))
def r9Resolves.ct:Ct El:=ctOf r9Resolves.dec (fun _=>[]) (fun x=>r9Resolves.res (r9Resolves x.1 x.2)) (fun x=>r9Resolves.news (r9Resolves x.1 x.2))
theorem r9Resolves.ok:CtOk (mkCx Tryz.prog S [] 0) 67 r9Resolves.ct:=ct_mk (C:=(mkCx Tryz.prog S tab_r9Hash 0)) (mkCx_ok sigOk mixed tab_r9Hash_ok 0) r9Resolves.dec_ok (fun x=>rfl) 4 (fun x _=>(r9Resolves.nf_ok x.1 x.2 _).mpr (r9Resolves.key x.1 x.2 _ rfl))
def tab_r9Resolves:List (FuncId×Ct El):= (67,r9Resolves.ct):: tab_pResolves
theorem tab_r9Resolves_ok:TabOk Tryz.prog S tab_r9Resolves:=⟨r9Resolves.ok,by kernel_rfl,tab_pResolves_ok⟩
end Go.Aw.W
