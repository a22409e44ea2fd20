/- Contracts of the seat (printed by ct.py). -/
import Derived.Test.YtlnbhdcaebmffaaGreatXW7
set_option linter.unusedVariables false
set_option linter.unusedSimpArgs false
set_option maxRecDepth 20000
set_option maxHeartbeats 1000000
namespace Go.Aw.W
open Go Go.Aw Go.Proofs
attribute [local irreducible] evCode evFun evOps evDs evOne ctxK loopK loopB subC bodyC headS okH roundK
def idxEnc.res (r:Int): AV El:=.v (.int .i64 (r))
def idxEnc.news (r:Int): List (AObj El):= []
def idxEnc.L (e v:Int): Prop:=idxEnc.res e=idxEnc.res v∧idxEnc.news e=idxEnc.news v
def idxEnc.go (l:List Control): Nat→Int→Int
 | 0,_=>0
 | n0+1,i=>cond (decide (i < (↑(List.length l): Int))) (cond ((List.getD l (Int.toNat i) Control.zero).Kind==(3:Int)) (i) (idxEnc.go l n0 (IntKind.wrap IntKind.i64 (i+(1:Int))))) ((-1:Int))
def idxEnc.hd (l:List Control) (i:Int): St El:={lo:=0,slots:=[(8, .v (.int .i64 (i))),(7, .v (.int .i64 ((↑(List.length l): Int)))),(0, .sl 37 (l:List (El 37)) false),(1, .clo 65 [])],n:=19,objs:=[]}
def idxEnc.st (l:List Control) (i:Int) (J:St El→Prop) (v:Int): Prop:=cond (decide (i < (↑(List.length l): Int))) (Ob (0≤i∧i < (↑(List.length l): Int))∧(cond ((List.getD l (Int.toNat i) Control.zero).Kind==3) (idxEnc.L (i) v) (J (idxEnc.hd l (IntKind.wrap IntKind.i64 (i+1)))))) (idxEnc.L ((-1)) v)
theorem idxEnc.st_ok (l:List Control) (i:Int) (J:St El→Prop) (v:Int): evCode (mkCx Tryz.prog S tab_insAdd 0) (evFun (mkCx Tryz.prog S tab_insAdd 0) 3) (loopB Tryz.prog 127 [true,false,true,false]) (idxEnc.hd l i) (roundK (C:=(mkCx Tryz.prog S tab_insAdd 0)) [8,7,0,1] [] J (loopK (mkCx Tryz.prog S tab_insAdd 0) 3 127 [true,false,true,false] (fun r' H'=>Gives r' H' (idxEnc.res v) (idxEnc.news v))))= idxEnc.st l i J v:=by kernel_rfl
def idxEnc.rng (l:List Control) (n0:Nat) (i:Int): Prop:=0≤i∧i≤l.length∧(l.length - i).toNat < n0∧l.length≤9223372036854775807
theorem idxEnc.lp (l:List Control) (v:Int) (n0:Nat) (i:Int) (hv:v=idxEnc.go l n0 i) (h0:idxEnc.rng l n0 i) (st:St El) (q1:okH [8,7,0,1] [] st=true) (q2:headS [8,7,0,1] [] st=idxEnc.hd l i): evCode (mkCx Tryz.prog S tab_insAdd 0) (evFun (mkCx Tryz.prog S tab_insAdd 0) 3) (.loop (loopB Tryz.prog 127 [true,false,true,false])) st (loopK (mkCx Tryz.prog S tab_insAdd 0) 3 127 [true,false,true,false] (fun r' H'=>Gives r' H' (idxEnc.res v) (idxEnc.news v))):= by
 refine loop_ev (by kernel_rfl) (evFun_mono _ _) [8,7,0,1] [] (X:=Nat×Int) (fun x=>idxEnc.hd l x.2) (fun x=>x.1) (fun x=>idxEnc.rng l x.1 x.2∧v=idxEnc.go l x.1 x.2) (n0,i) ⟨q1,q2⟩ ⟨h0,hv⟩ ?_
 clear h0 hv q1 q2
 rintro ⟨n0,i⟩ ⟨hr,hv⟩
 dsimp only at hr hv
 cases n0 with
 | zero=>exact absurd hr (by unfold idxEnc.rng;omega)
 | succ n0 =>
 unfold idxEnc.rng at hr
 unfold idxEnc.go at hv
 refine (idxEnc.st_ok l i _ _).mpr ?_
 unfold idxEnc.st
 revert hv;refine by_cond2 (fun hb hv=>?_) (fun hb hv=>?_)
 ·refine ⟨⟨by (try clear hv);(try clear q1 q2);(try clear hk);(first | omega | (simp only [cUpd,List.length_append,List.length_cons,List.length_nil] at *;omega)| (simp only [gUpdate,gMap,gParams,gTerm,gEncrypt,gEncAns,gUnknown,gVersion,gReject,gPlain,gFeat,gLen,cUpd,List.length_append,List.length_cons,List.length_nil] at *;omega)| ((try simp only [decide_eq_true_eq,decide_eq_false_iff_not,Bool.not_eq_true,Bool.not_eq_false,Bool.and_eq_true,Bool.or_eq_true,Bool.not_not,cond_and,cond_or,List.length_append,List.length_cons,List.length_nil] at *);(first | done | ((first | omega | (intros;(try simp only [Bool.not_not,cond_and,cond_or,Bool.and_eq_true,decide_eq_true_eq] at *);(exact band_nn rfl _ _))| (intros;(try simp only [Bool.not_not,cond_and,cond_or,Bool.and_eq_true,decide_eq_true_eq] at *);(exact (wu64s _).2.1))| (intros;(try simp only [Bool.not_not,cond_and,cond_or,Bool.and_eq_true,decide_eq_true_eq] at *);(simp only [Bool.or_eq_false_iff,Bool.and_eq_false_iff,decide_eq_false_iff_not,decide_eq_true_eq,bne_iff_ne,beq_iff_eq,bne_eq_false_iff_eq,beq_eq_false_iff_ne,ne_eq,true_and] at *;omega))| (intros;(try simp only [Bool.not_not,cond_and,cond_or,Bool.and_eq_true,decide_eq_true_eq] at *);(simp only [List.length_drop,List.length_take,List.length_append,List.length_cons,List.length_nil] at *;omega))| (intros;omega)| (intros;simp only [Bool.not_not,cond_and,cond_or,Bool.and_eq_true,decide_eq_true_eq] at *;omega)| (intros;simp_all [Bool.not_not];done))))))⟩, ?_⟩
  revert hv;refine by_cond2 (fun hb hv=>?_) (fun hb hv=>?_)
  ·subst hv;exact ⟨rfl,rfl⟩
  ·exact ⟨(n0,(IntKind.wrap IntKind.i64 (i+(1:Int)))),(by kernel_rfl),Nat.lt_succ_self n0,(by dsimp only;unfold idxEnc.rng;(try clear hv);(try clear q1 q2);(try clear hk);(try simp only [decide_eq_true_eq,decide_eq_false_iff_not,Bool.not_eq_true,Bool.not_eq_false,Bool.and_eq_true,Bool.or_eq_true,Bool.not_not,cond_and,cond_or,List.length_append,List.length_cons,List.length_nil] at *);have:=wi64s (i+(1:Int));omega),hv⟩
 ·subst hv;exact ⟨rfl,rfl⟩
def idxEnc (l:List Control): Int:=idxEnc.go l (l.length+1) ((0:Int))
def idxEnc.dec (cs:List (AV El)): Option ((List Control)):= popS 37 cs fun a0 c0=>popK 65 [] c0 fun c1=>popE c1 a0
def idxEnc.enc (x:(List Control)): List (AV El):= [.sl 37 (x:List (El 37)) false, .clo 65 (refsOf [])]
theorem idxEnc.dec_ok : ∀cs x,idxEnc.dec cs=some x→Imp (S:=S) cs (idxEnc.enc x):= by
 intro cs x h
 unfold idxEnc.dec at h
 obtain ⟨a0,c0,h0,k0⟩:= popS_some (S:=S) (t:=37) h
 obtain ⟨c1,rfl,h1⟩:= popK_some (El:=El) h0
 obtain ⟨rfl,rfl⟩:= popE_some (S:=S) h1
 exact (k0 _ (.cons (.refl _)))
def idxEnc.nf (l:List Control) (v:Int): Prop:=(List.length l≤(9223372036854775807:Nat))→(evCode (mkCx Tryz.prog S tab_insAdd 0) (evFun (mkCx Tryz.prog S tab_insAdd 0) 3) (.loop (loopB Tryz.prog 127 [true,false,true,false])) ({lo:=0,slots:=[(8, .v (.int .i64 (0))),(7, .v (.int .i64 ((↑(List.length l): Int)))),(6, .sl 37 (l:List (El 37)) false),(4, .v (.int .i64 (0))),(0, .sl 37 (l:List (El 37)) false),(1, .clo 65 [])],n:=19,objs:=[]}) (loopK (mkCx Tryz.prog S tab_insAdd 0) 3 127 [true,false,true,false] (fun r' H'=>Gives r' H' (idxEnc.res v) (idxEnc.news v))))
theorem idxEnc.nf_ok (l:List Control) (v:Int): evFun (mkCx Tryz.prog S tab_insAdd 0) 4 127 [.sl 37 (l:List (El 37)) false, .clo 65 (refsOf [])] [] (fun r' H'=>Gives r' H' (idxEnc.res v) (idxEnc.news v))= idxEnc.nf l v:=by kernel_rfl
theorem idxEnc.key (l:List Control) (v:Int) (hv:v=idxEnc l): idxEnc.nf l v:=by
 unfold idxEnc at hv
 unfold idxEnc.nf
 intro hlen
 exact idxEnc.lp l v _ _ hv (by unfold idxEnc.rng;(try clear hv);(try clear q1 q2);(try clear hk);(first | omega | (simp only [List.length_nil];omega)| (simp;omega))) _ (by kernel_rfl) (by kernel_rfl)
def idxEnc.ct:Ct El:=ctOf idxEnc.dec (fun _=>[]) (fun x=>idxEnc.res (idxEnc x)) (fun x=>idxEnc.news (idxEnc x))
theorem idxEnc.ok:CtOk (mkCx Tryz.prog S [] 0) 127 idxEnc.ct:=ct_mk (C:=(mkCx Tryz.prog S tab_insAdd 0)) (mkCx_ok sigOk mixed tab_insAdd_ok 0) idxEnc.dec_ok (fun x=>rfl) 4 (fun x _=>(idxEnc.nf_ok x _).mpr (idxEnc.key x _ rfl))
def tab_idxEnc:List (FuncId×Ct El):= (127,idxEnc.ct):: tab_insAdd
theorem tab_idxEnc_ok:TabOk Tryz.prog S tab_idxEnc:=⟨idxEnc.ok,by kernel_rfl,tab_insAdd_ok⟩
def conEnc.res (r:Bool): AV El:=.v (.bool (r))
def conEnc.news (r:Bool): List (AObj El):= []
def conEnc.L (e v:Bool): Prop:=conEnc.res e=conEnc.res v∧conEnc.news e=conEnc.news v
def conEnc (l:List Control): Bool:=decide ((0:Int)≤idxEnc l)
def conEnc.dec (cs:List (AV El)): Option ((List Control)):= popS 37 cs fun a0 c0=>popK 65 [] c0 fun c1=>popE c1 a0
def conEnc.enc (x:(List Control)): List (AV El):= [.sl 37 (x:List (El 37)) false, .clo 65 (refsOf [])]
theorem conEnc.dec_ok : ∀cs x,conEnc.dec cs=some x→Imp (S:=S) cs (conEnc.enc x):= by
 intro cs x h
 unfold conEnc.dec at h
 obtain ⟨a0,c0,h0,k0⟩:= popS_some (S:=S) (t:=37) h
 obtain ⟨c1,rfl,h1⟩:= popK_some (El:=El) h0
 obtain ⟨rfl,rfl⟩:= popE_some (S:=S) h1
 exact (k0 _ (.cons (.refl _)))
def conEnc.nf (l:List Control) (v:Bool): Prop:=conEnc.L (decide ((0:Int)≤idxEnc l)) v
theorem conEnc.nf_ok (l:List Control) (v:Bool): evFun (mkCx Tryz.prog S tab_idxEnc 0) 4 64 [.sl 37 (l:List (El 37)) false, .clo 65 (refsOf [])] [] (fun r' H'=>Gives r' H' (conEnc.res v) (conEnc.news v))= conEnc.nf l v:=by kernel_rfl
theorem conEnc.key (l:List Control) (v:Bool) (hv:v=conEnc l): conEnc.nf l v:=by
 unfold conEnc at hv
 unfold conEnc.nf
 subst hv;exact ⟨rfl,rfl⟩
def conEnc.ct:Ct El:=ctOf conEnc.dec (fun _=>[]) (fun x=>conEnc.res (conEnc x)) (fun x=>conEnc.news (conEnc x))
theorem conEnc.ok:CtOk (mkCx Tryz.prog S [] 0) 64 conEnc.ct:=ct_mk (C:=(mkCx Tryz.prog S tab_idxEnc 0)) (mkCx_ok sigOk mixed tab_idxEnc_ok 0) conEnc.dec_ok (fun x=>rfl) 4 (fun x _=>(conEnc.nf_ok x _).mpr (conEnc.key x _ rfl))
def tab_conEnc:List (FuncId×Ct El):= (64,conEnc.ct):: tab_idxEnc
theorem tab_conEnc_ok:TabOk Tryz.prog S tab_conEnc:=⟨conEnc.ok,by kernel_rfl,tab_idxEnc_ok⟩
end Go.Aw.W
