/- Contracts of the seat (printed by ct.py). -/
import Derived.Test.YtppceadhdckpmaaGreatDoorXW7
set_option linter.unusedVariables false
set_option linter.unusedSimpArgs false
set_option maxRecDepth 20000
set_option maxHeartbeats 1000000
namespace Go.Aw.W
open Go Go.Aw Go.Proofs
attribute [local irreducible] evCode evFun evOps evDs evOne ctxK loopK loopB subC bodyC headS okH roundK
def pHash.res (r:Int): AV El:=.v (.int .u64 (r))
def pHash.news (r:Int): List (AObj El):= []
def pHash.L (e v:Int): Prop:=pHash.res e=pHash.res v∧pHash.news e=pHash.news v
def pHash (irk:Int) (prand:Int): Int:=bandK IntKind.u64 (pDerive irk {data:=#[(114:UInt8),(112:UInt8),(97:UInt8)]: ByteArray} [prand]) (16777215:Int)
def pHash.dec (cs:List (AV El)): Option (Int×Int):= popI .u64 cs fun a0 c0=>popI .u64 c0 fun a1 c1=>popE c1 (a0,a1)
def pHash.enc (x:Int×Int): List (AV El):= [.v (.int .u64 x.1), .v (.int .u64 x.2)]
theorem pHash.dec_ok : ∀cs x,pHash.dec cs=some x→Imp (S:=S) cs (pHash.enc x):= by
 intro cs x h
 unfold pHash.dec at h
 obtain ⟨a0,c0,rfl,h0⟩:= popI_some (S:=S) h
 obtain ⟨a1,c1,rfl,h1⟩:= popI_some (S:=S) h0
 obtain ⟨rfl,rfl⟩:= popE_some (S:=S) h1
 exact (.cons (.cons (.refl _)))
def pHash.nf (irk:Int) (prand:Int) (v:Int): Prop:=Ob (List.length (bytesI {data:=#[(114:UInt8),(112:UInt8),(97:UInt8)]: ByteArray})≤(1099511627776:Nat)∧List.length [prand]≤(1099511627776:Nat))∧(pHash.L (bandK IntKind.u64 (pDerive irk {data:=#[(114:UInt8),(112:UInt8),(97:UInt8)]: ByteArray} [prand]) (16777215:Int)) v)
theorem pHash.nf_ok (irk:Int) (prand:Int) (v:Int): evFun (mkCx Tryz.prog S tab_pDerive 0) 4 76 [.v (.int .u64 irk), .v (.int .u64 prand)] [] (fun r' H'=>Gives r' H' (pHash.res v) (pHash.news v))= pHash.nf irk prand v:=by kernel_rfl
theorem pHash.key (irk:Int) (prand:Int) (v:Int) (hv:v=pHash irk prand): pHash.nf irk prand v:=by
 unfold pHash at hv
 unfold pHash.nf
 refine ⟨⟨by (try clear hv);(try clear q1 q2);(try clear hk);(first | omega | ((try simp only [decide_eq_true_eq,decide_eq_false_iff_not,Bool.not_eq_true,Bool.not_eq_false,Bool.and_eq_true,Bool.or_eq_true,Bool.not_not,cond_and,cond_or,List.length_append,List.length_cons,List.length_nil] at *);(first | done | ((first | omega | (intros;(try simp only [Bool.not_not,cond_and,cond_or,Bool.and_eq_true,decide_eq_true_eq] at *);(exact ⟨by decide,by simp⟩))| (intros;(try simp only [Bool.not_not,cond_and,cond_or,Bool.and_eq_true,decide_eq_true_eq] at *);(exact pDerive_len _ _ (by omega) (by omega)))| (intros;(try simp only [Bool.not_not,cond_and,cond_or,Bool.and_eq_true,decide_eq_true_eq] at *);(exact pDerive_len2 _ _ (by omega) (by omega)))| (intros;(try simp only [Bool.not_not,cond_and,cond_or,Bool.and_eq_true,decide_eq_true_eq] at *);(exact band_nn rfl _ _))| (intros;(try simp only [Bool.not_not,cond_and,cond_or,Bool.and_eq_true,decide_eq_true_eq] at *);(exact (wu64s _).2.1))| (intros;(try simp only [Bool.not_not,cond_and,cond_or,Bool.and_eq_true,decide_eq_true_eq] at *);(simp only [Bool.or_eq_false_iff,Bool.and_eq_false_iff,decide_eq_false_iff_not,decide_eq_true_eq,bne_iff_ne,beq_iff_eq,bne_eq_false_iff_eq,beq_eq_false_iff_ne,ne_eq,true_and] at *;omega))| (intros;(try simp only [Bool.not_not,cond_and,cond_or,Bool.and_eq_true,decide_eq_true_eq] at *);(simp only [List.length_drop,List.length_take,List.length_append,List.length_cons,List.length_nil] at *;omega))| (intros;omega)| (intros;simp only [sized_iff,Bool.not_not,cond_and,cond_or,Bool.and_eq_true,decide_eq_true_eq] at *;omega)| (intros;simp_all [sized_iff,Bool.not_not];done))))))⟩, ?_⟩
 subst hv;exact ⟨rfl,rfl⟩
def pHash.ct:Ct El:=ctOf pHash.dec (fun _=>[]) (fun x=>pHash.res (pHash x.1 x.2)) (fun x=>pHash.news (pHash x.1 x.2))
theorem pHash.ok:CtOk (mkCx Tryz.prog S [] 0) 76 pHash.ct:=ct_mk (C:=(mkCx Tryz.prog S tab_pDerive 0)) (mkCx_ok sigOk mixed tab_pDerive_ok 0) pHash.dec_ok (fun x=>rfl) 4 (fun x _=>(pHash.nf_ok x.1 x.2 _).mpr (pHash.key x.1 x.2 _ rfl))
def tab_pHash:List (FuncId×Ct El):= (76,pHash.ct):: tab_pDerive
theorem tab_pHash_ok:TabOk Tryz.prog S tab_pHash:=⟨pHash.ok,by kernel_rfl,tab_pDerive_ok⟩
def r9Hash.res (r:Int): AV El:=.v (.int .u64 (r))
def r9Hash.news (r:Int): List (AObj El):= []
def r9Hash.L (e v:Int): Prop:=r9Hash.res e=r9Hash.res v∧r9Hash.news e=r9Hash.news v
def r9Hash (irk:Int) (prand:Int): Int:=Int.tmod (r6Derive irk {data:=#[(114:UInt8),(112:UInt8),(97:UInt8)]: ByteArray} [prand]) (16777216:Int)
def r9Hash.dec (cs:List (AV El)): Option (Int×Int):= popI .u64 cs fun a0 c0=>popI .u64 c0 fun a1 c1=>popE c1 (a0,a1)
def r9Hash.enc (x:Int×Int): List (AV El):= [.v (.int .u64 x.1), .v (.int .u64 x.2)]
theorem r9Hash.dec_ok : ∀cs x,r9Hash.dec cs=some x→Imp (S:=S) cs (r9Hash.enc x):= by
 intro cs x h
 unfold r9Hash.dec at h
 obtain ⟨a0,c0,rfl,h0⟩:= popI_some (S:=S) h
 obtain ⟨a1,c1,rfl,h1⟩:= popI_some (S:=S) h0
 obtain ⟨rfl,rfl⟩:= popE_some (S:=S) h1
 exact (.cons (.cons (.refl _)))
def r9Hash.nf (irk:Int) (prand:Int) (v:Int): Prop:=Ob (List.length (bytesI {data:=#[(114:UInt8),(112:UInt8),(97:UInt8)]: ByteArray})≤(1099511627776:Nat)∧List.length [prand]≤(1099511627776:Nat))∧(Ob ((16777216:Int)≠(0:Int))∧(r9Hash.L (Int.tmod (r6Derive irk {data:=#[(114:UInt8),(112:UInt8),(97:UInt8)]: ByteArray} [prand]) (16777216:Int)) v))
theorem r9Hash.nf_ok (irk:Int) (prand:Int) (v:Int): evFun (mkCx Tryz.prog S tab_pDerive 0) 4 80 [.v (.int .u64 irk), .v (.int .u64 prand)] [] (fun r' H'=>Gives r' H' (r9Hash.res v) (r9Hash.news v))= r9Hash.nf irk prand v:=by kernel_rfl
theorem r9Hash.key (irk:Int) (prand:Int) (v:Int) (hv:v=r9Hash irk prand): r9Hash.nf irk prand v:=by
 unfold r9Hash at hv
 unfold r9Hash.nf
 refine ⟨⟨?_⟩, ?_⟩;rotate_left
 refine ⟨⟨?_⟩, ?_⟩;rotate_left
 subst hv;exact ⟨rfl,rfl⟩
 all_goals ((try clear hv);(try clear q1 q2);(try clear hk);(first | omega | ((try simp only [decide_eq_true_eq,decide_eq_false_iff_not,Bool.not_eq_true,Bool.not_eq_false,Bool.and_eq_true,Bool.or_eq_true,Bool.not_not,cond_and,cond_or,List.length_append,List.length_cons,List.length_nil] at *);(first | done | ((first | omega | (intros;(try simp only [Bool.not_not,cond_and,cond_or,Bool.and_eq_true,decide_eq_true_eq] at *);(exact ⟨by decide,by simp⟩))| (intros;(try simp only [Bool.not_not,cond_and,cond_or,Bool.and_eq_true,decide_eq_true_eq] at *);(exact pDerive_len _ _ (by omega) (by omega)))| (intros;(try simp only [Bool.not_not,cond_and,cond_or,Bool.and_eq_true,decide_eq_true_eq] at *);(exact pDerive_len2 _ _ (by omega) (by omega)))| (intros;(try simp only [Bool.not_not,cond_and,cond_or,Bool.and_eq_true,decide_eq_true_eq] at *);(exact band_nn rfl _ _))| (intros;(try simp only [Bool.not_not,cond_and,cond_or,Bool.and_eq_true,decide_eq_true_eq] at *);(exact (wu64s _).2.1))| (intros;(try simp only [Bool.not_not,cond_and,cond_or,Bool.and_eq_true,decide_eq_true_eq] at *);(simp only [Bool.or_eq_false_iff,Bool.and_eq_false_iff,decide_eq_false_iff_not,decide_eq_true_eq,bne_iff_ne,beq_iff_eq,bne_eq_false_iff_eq,beq_eq_false_iff_ne,ne_eq,true_and] at *;omega))| (intros;(try simp only [Bool.not_not,cond_and,cond_or,Bool.and_eq_true,decide_eq_true_eq] at *);(simp only [List.length_drop,List.length_take,List.length_append,List.length_cons,List.length_nil] at *;omega))| (intros;omega)| (intros;simp only [sized_iff,Bool.not_not,cond_and,cond_or,Bool.and_eq_true,decide_eq_true_eq] at *;omega)| (intros;simp_all [sized_iff,Bool.not_not];done)))))))
def r9Hash.ct:Ct El:=ctOf r9Hash.dec (fun _=>[]) (fun x=>r9Hash.res (r9Hash x.1 x.2)) (fun x=>r9Hash.news (r9Hash x.1 x.2))
theorem r9Hash.ok:CtOk (mkCx Tryz.prog S [] 0) 80 r9Hash.ct:=ct_mk (C:=(mkCx Tryz.prog S tab_pDerive 0)) (mkCx_ok sigOk mixed tab_pDerive_ok 0) r9Hash.dec_ok (fun x=>rfl) 4 (fun x _=>(r9Hash.nf_ok x.1 x.2 _).mpr (r9Hash.key x.1 x.2 _ rfl))
def tab_r9Hash:List (FuncId×Ct El):= (80,r9Hash.ct):: tab_pHash
theorem tab_r9Hash_ok:TabOk Tryz.prog S tab_r9Hash:=⟨r9Hash.ok,by kernel_rfl,tab_pHash_ok⟩
end Go.Aw.W
