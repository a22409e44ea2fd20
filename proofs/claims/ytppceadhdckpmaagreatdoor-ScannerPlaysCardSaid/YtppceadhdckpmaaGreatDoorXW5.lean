/- Contracts of the seat (printed by ct.py). -/
import Derived.Test.YtppceadhdckpmaaGreatDoorXW4
set_option linter.unusedVariables false
set_option linter.unusedSimpArgs false
set_option maxRecDepth 20000
set_option maxHeartbeats 1000000
namespace Go.Aw.W
open Go Go.Aw Go.Proofs
attribute [local irreducible] evCode evFun evOps evDs evOne ctxK loopK loopB subC bodyC headS okH roundK
def kMix.res (r:Int): AV El:=.v (.int .u64 (r))
def kMix.news (r:Int): List (AObj El):= []
def kMix.L (e v:Int): Prop:=kMix.res e=kMix.res v∧kMix.news e=kMix.news v
def kMix.go (k:Int) (p1:Int): Nat→Int→Int→Int→Int
 | 0,_,_,_=>0
 | n0+1,i,a,b=>cond (decide (i < (8:Int))) (kMix.go k p1 n0 (IntKind.wrap IntKind.i64 (i+(1:Int))) (b) (bxorK IntKind.u32 a (kRound k i b))) (borK IntKind.u64 (shlK IntKind.u64 (IntKind.wrap IntKind.u64 a) (32:Int)) (IntKind.wrap IntKind.u64 b))
def kMix.hd (k:Int) (p1:Int) (i:Int) (a:Int) (b:Int): St El:={lo:=0,slots:=[(9, .v (.int .i64 (i))),(5, .ref 0 0),(0, .v (.int .u64 (k)))],n:=26,objs:=[.cells [.v (.int .u32 (a)), .v (.int .u32 (b))]]}
def kMix.st (k:Int) (p1:Int) (i:Int) (a:Int) (b:Int) (J:St El→Prop) (v:Int): Prop:=cond (decide (i < (8:Int))) (Ob ((0:Int)≤(1:Int)∧(1:Int) < (↑(2:Nat): Int))∧(Ob ((0:Int)≤(0:Int)∧(0:Int) < (↑(2:Nat): Int))∧(Ob ((0:Int)≤(1:Int)∧(1:Int) < (↑(2:Nat): Int))∧(J (kMix.hd k p1 (IntKind.wrap IntKind.i64 (i+(1:Int))) (b) (bxorK IntKind.u32 a (kRound k i b))))))) (Ob ((0:Int)≤(0:Int)∧(0:Int) < (↑(2:Nat): Int))∧(Ob ((0:Int)≤(32:Int))∧(Ob ((0:Int)≤(1:Int)∧(1:Int) < (↑(2:Nat): Int))∧(kMix.L (borK IntKind.u64 (shlK IntKind.u64 (IntKind.wrap IntKind.u64 a) (32:Int)) (IntKind.wrap IntKind.u64 b)) v))))
theorem kMix.st_ok (k:Int) (p1:Int) (i:Int) (a:Int) (b:Int) (J:St El→Prop) (v:Int): evCode (mkCx Tryz.prog S tab_aCheck 0) (evFun (mkCx Tryz.prog S tab_aCheck 0) 3) (loopB Tryz.prog 81 [true,true,false,true,false]) (kMix.hd k p1 i a b) (roundK (C:=(mkCx Tryz.prog S tab_aCheck 0)) [9,5,0] [] J (loopK (mkCx Tryz.prog S tab_aCheck 0) 3 81 [true,true,false,true,false] (fun r' H'=>Gives r' H' (kMix.res v) (kMix.news v))))= kMix.st k p1 i a b J v:=by kernel_rfl
def kMix.rng (k:Int) (p1:Int) (n0:Nat) (i:Int) (a:Int) (b:Int): Prop:=0≤i∧i≤8∧(8 - i).toNat < n0
theorem kMix.lp (k:Int) (p1:Int) (v:Int) (n0:Nat) (i:Int) (a:Int) (b:Int) (hv:v=kMix.go k p1 n0 i a b) (h0:kMix.rng k p1 n0 i a b) (st:St El) (q1:okH [9,5,0] [] st=true) (q2:headS [9,5,0] [] st=kMix.hd k p1 i a b): evCode (mkCx Tryz.prog S tab_aCheck 0) (evFun (mkCx Tryz.prog S tab_aCheck 0) 3) (.loop (loopB Tryz.prog 81 [true,true,false,true,false])) st (loopK (mkCx Tryz.prog S tab_aCheck 0) 3 81 [true,true,false,true,false] (fun r' H'=>Gives r' H' (kMix.res v) (kMix.news v))):= by
 refine loop_ev (by kernel_rfl) (evFun_mono _ _) [9,5,0] [] (X:=Nat×Int×Int×Int) (fun x=>kMix.hd k p1 x.2.1 x.2.2.1 x.2.2.2) (fun x=>x.1) (fun x=>kMix.rng k p1 x.1 x.2.1 x.2.2.1 x.2.2.2∧v=kMix.go k p1 x.1 x.2.1 x.2.2.1 x.2.2.2) (n0,i,a,b) ⟨q1,q2⟩ ⟨h0,hv⟩ ?_
 clear h0 hv q1 q2
 rintro ⟨n0,i,a,b⟩ ⟨hr,hv⟩
 dsimp only at hr hv
 cases n0 with
 | zero=>exact absurd hr (by unfold kMix.rng;omega)
 | succ n0 =>
 unfold kMix.rng at hr
 unfold kMix.go at hv
 refine (kMix.st_ok k p1 i a b _ _).mpr ?_
 unfold kMix.st
 revert hv;refine by_cond2 (fun hb hv=>?_) (fun hb hv=>?_)
 refine ⟨⟨?_⟩, ?_⟩;rotate_left
 refine ⟨⟨?_⟩, ?_⟩;rotate_left
 refine ⟨⟨?_⟩, ?_⟩;rotate_left
 exact ⟨(n0,(IntKind.wrap IntKind.i64 (i+(1:Int))),(b),(bxorK IntKind.u32 a (kRound k i b))),(by kernel_rfl),Nat.lt_succ_self n0,(by dsimp only;unfold kMix.rng;(try clear hv);(try clear q1 q2);(try clear hk);(try simp only [decide_eq_true_eq,decide_eq_false_iff_not,Bool.not_eq_true,Bool.not_eq_false,Bool.and_eq_true,Bool.or_eq_true,Bool.not_not,cond_and,cond_or,List.length_append,List.length_cons,List.length_nil] at *);have:=wi64s (i+(1:Int));omega),hv⟩
 refine ⟨⟨?_⟩, ?_⟩;rotate_left
 refine ⟨⟨?_⟩, ?_⟩;rotate_left
 refine ⟨⟨?_⟩, ?_⟩;rotate_left
 subst hv;exact ⟨rfl,rfl⟩
 all_goals ((try clear hv);(try clear q1 q2);(try clear hk);(first | omega | ((try simp only [decide_eq_true_eq,decide_eq_false_iff_not,Bool.not_eq_true,Bool.not_eq_false,Bool.and_eq_true,Bool.or_eq_true,Bool.not_not,cond_and,cond_or,List.length_append,List.length_cons,List.length_nil] at *);(first | done | ((first | omega | (intros;(try simp only [Bool.not_not,cond_and,cond_or,Bool.and_eq_true,decide_eq_true_eq] at *);(exact band_nn rfl _ _))| (intros;(try simp only [Bool.not_not,cond_and,cond_or,Bool.and_eq_true,decide_eq_true_eq] at *);(exact (wu64s _).2.1))| (intros;(try simp only [Bool.not_not,cond_and,cond_or,Bool.and_eq_true,decide_eq_true_eq] at *);(simp only [Bool.or_eq_false_iff,Bool.and_eq_false_iff,decide_eq_false_iff_not,decide_eq_true_eq,bne_iff_ne,beq_iff_eq,bne_eq_false_iff_eq,beq_eq_false_iff_ne,ne_eq,true_and] at *;omega))| (intros;(try simp only [Bool.not_not,cond_and,cond_or,Bool.and_eq_true,decide_eq_true_eq] at *);(simp only [List.length_drop,List.length_take,List.length_append,List.length_cons,List.length_nil] at *;omega))| (intros;(try simp only [Bool.not_not,cond_and,cond_or,Bool.and_eq_true,decide_eq_true_eq] at *);(exact aPart_nn _))| (intros;(try simp only [Bool.not_not,cond_and,cond_or,Bool.and_eq_true,decide_eq_true_eq] at *);(have hpl:=prefixes_len;simp only [Bool.or_eq_false_iff,decide_eq_false_iff_not] at *;omega))| (intros;omega)| (intros;simp only [sized_iff,Bool.not_not,cond_and,cond_or,Bool.and_eq_true,decide_eq_true_eq] at *;omega)| (intros;simp_all [sized_iff,Bool.not_not];done)))))))
def kMix (k:Int) (p1:Int): Int:=kMix.go k p1 (9) ((0:Int)) (IntKind.wrap IntKind.u32 (shrK IntKind.u64 p1 (32:Int))) (IntKind.wrap IntKind.u32 (sLow p1 (32:Int)))
def kMix.dec (cs:List (AV El)): Option (Int×Int):= popI .u64 cs fun a0 c0=>popI .u64 c0 fun a1 c1=>popE c1 (a0,a1)
def kMix.enc (x:Int×Int): List (AV El):= [.v (.int .u64 x.1), .v (.int .u64 x.2)]
theorem kMix.dec_ok : ∀cs x,kMix.dec cs=some x→Imp (S:=S) cs (kMix.enc x):= by
 intro cs x h
 unfold kMix.dec at h
 obtain ⟨a0,c0,rfl,h0⟩:= popI_some (S:=S) h
 obtain ⟨a1,c1,rfl,h1⟩:= popI_some (S:=S) h0
 obtain ⟨rfl,rfl⟩:= popE_some (S:=S) h1
 exact (.cons (.cons (.refl _)))
def kMix.nf (k:Int) (p1:Int) (v:Int): Prop:=Ob ((0:Int)≤(32:Int))∧(evCode (mkCx Tryz.prog S tab_aCheck 0) (evFun (mkCx Tryz.prog S tab_aCheck 0) 3) (.loop (loopB Tryz.prog 81 [true,true,false,true,false])) ({lo:=0,slots:=[(9, .v (.int .i64 ((0:Int)))),(5, .ref 1 0),(8, .agg [.v (.int .u32 (IntKind.wrap IntKind.u32 (shrK IntKind.u64 p1 (32:Int)))), .v (.int .u32 (IntKind.wrap IntKind.u32 (sLow p1 (32:Int))))]),(7, .v (.int .u64 (p1))),(4, .v (.int .u64 ((0:Int)))),(0, .v (.int .u64 (k))),(1, .v (.int .u64 (p1)))],n:=26,objs:=[.cells [.v (.int .u32 (IntKind.wrap IntKind.u32 (shrK IntKind.u64 p1 (32:Int)))), .v (.int .u32 (IntKind.wrap IntKind.u32 (sLow p1 (32:Int))))], .cells [.v (.int .u32 (IntKind.wrap IntKind.u32 (shrK IntKind.u64 p1 (32:Int)))), .v (.int .u32 (IntKind.wrap IntKind.u32 (sLow p1 (32:Int))))]]}) (loopK (mkCx Tryz.prog S tab_aCheck 0) 3 81 [true,true,false,true,false] (fun r' H'=>Gives r' H' (kMix.res v) (kMix.news v))))
theorem kMix.nf_ok (k:Int) (p1:Int) (v:Int): evFun (mkCx Tryz.prog S tab_aCheck 0) 4 81 [.v (.int .u64 k), .v (.int .u64 p1)] [] (fun r' H'=>Gives r' H' (kMix.res v) (kMix.news v))= kMix.nf k p1 v:=by kernel_rfl
theorem kMix.key (k:Int) (p1:Int) (v:Int) (hv:v=kMix k p1): kMix.nf k p1 v:=by
 unfold kMix at hv
 unfold kMix.nf
 refine ⟨⟨by (try clear hv);(try clear q1 q2);(try clear hk);(first | omega | ((try simp only [decide_eq_true_eq,decide_eq_false_iff_not,Bool.not_eq_true,Bool.not_eq_false,Bool.and_eq_true,Bool.or_eq_true,Bool.not_not,cond_and,cond_or,List.length_append,List.length_cons,List.length_nil] at *);(first | done | ((first | omega | (intros;(try simp only [Bool.not_not,cond_and,cond_or,Bool.and_eq_true,decide_eq_true_eq] at *);(exact band_nn rfl _ _))| (intros;(try simp only [Bool.not_not,cond_and,cond_or,Bool.and_eq_true,decide_eq_true_eq] at *);(exact (wu64s _).2.1))| (intros;(try simp only [Bool.not_not,cond_and,cond_or,Bool.and_eq_true,decide_eq_true_eq] at *);(simp only [Bool.or_eq_false_iff,Bool.and_eq_false_iff,decide_eq_false_iff_not,decide_eq_true_eq,bne_iff_ne,beq_iff_eq,bne_eq_false_iff_eq,beq_eq_false_iff_ne,ne_eq,true_and] at *;omega))| (intros;(try simp only [Bool.not_not,cond_and,cond_or,Bool.and_eq_true,decide_eq_true_eq] at *);(simp only [List.length_drop,List.length_take,List.length_append,List.length_cons,List.length_nil] at *;omega))| (intros;(try simp only [Bool.not_not,cond_and,cond_or,Bool.and_eq_true,decide_eq_true_eq] at *);(exact aPart_nn _))| (intros;(try simp only [Bool.not_not,cond_and,cond_or,Bool.and_eq_true,decide_eq_true_eq] at *);(have hpl:=prefixes_len;simp only [Bool.or_eq_false_iff,decide_eq_false_iff_not] at *;omega))| (intros;omega)| (intros;simp only [sized_iff,Bool.not_not,cond_and,cond_or,Bool.and_eq_true,decide_eq_true_eq] at *;omega)| (intros;simp_all [sized_iff,Bool.not_not];done))))))⟩, ?_⟩
 exact kMix.lp k p1 v _ _ _ _ hv (by unfold kMix.rng;(try clear hv);(try clear q1 q2);(try clear hk);(first | omega | (simp only [List.length_nil];omega)| (simp;omega))) _ (by kernel_rfl) (by kernel_rfl)
def kMix.ct:Ct El:=ctOf kMix.dec (fun _=>[]) (fun x=>kMix.res (kMix x.1 x.2)) (fun x=>kMix.news (kMix x.1 x.2))
theorem kMix.ok:CtOk (mkCx Tryz.prog S [] 0) 81 kMix.ct:=ct_mk (C:=(mkCx Tryz.prog S tab_aCheck 0)) (mkCx_ok sigOk mixed tab_aCheck_ok 0) kMix.dec_ok (fun x=>rfl) 4 (fun x _=>(kMix.nf_ok x.1 x.2 _).mpr (kMix.key x.1 x.2 _ rfl))
def tab_kMix:List (FuncId×Ct El):= (81,kMix.ct):: tab_aCheck
theorem tab_kMix_ok:TabOk Tryz.prog S tab_kMix:=⟨kMix.ok,by kernel_rfl,tab_aCheck_ok⟩
def r5Mix.res (r:Int): AV El:=.v (.int .u64 (r))
def r5Mix.news (r:Int): List (AObj El):= []
def r5Mix.L (e v:Int): Prop:=r5Mix.res e=r5Mix.res v∧r5Mix.news e=r5Mix.news v
def r5Mix.go (k:Int) (p1:Int): Nat→Int→Int→Int→Int
 | 0,_,_,_=>0
 | n0+1,i,l,r=>cond (decide (i < (8:Int))) (r5Mix.go k p1 n0 (IntKind.wrap IntKind.i64 (i+(1:Int))) (r) (bxorK IntKind.u32 l (r5Round k i r))) (IntKind.wrap IntKind.u64 (IntKind.wrap IntKind.u64 (IntKind.wrap IntKind.u64 l*(4294967296:Int))+ IntKind.wrap IntKind.u64 r))
def r5Mix.hd (k:Int) (p1:Int) (i:Int) (l:Int) (r:Int): St El:={lo:=0,slots:=[(7, .v (.int .i64 (i))),(5, .v (.int .u32 (l))),(6, .v (.int .u32 (r))),(0, .v (.int .u64 (k)))],n:=33,objs:=[]}
def r5Mix.st (k:Int) (p1:Int) (i:Int) (l:Int) (r:Int) (J:St El→Prop) (v:Int): Prop:=cond (decide (i < (8:Int))) (J (r5Mix.hd k p1 (IntKind.wrap IntKind.i64 (i+(1:Int))) (r) (bxorK IntKind.u32 l (r5Round k i r)))) (r5Mix.L (IntKind.wrap IntKind.u64 (IntKind.wrap IntKind.u64 (IntKind.wrap IntKind.u64 l*(4294967296:Int))+ IntKind.wrap IntKind.u64 r)) v)
theorem r5Mix.st_ok (k:Int) (p1:Int) (i:Int) (l:Int) (r:Int) (J:St El→Prop) (v:Int): evCode (mkCx Tryz.prog S tab_kMix 0) (evFun (mkCx Tryz.prog S tab_kMix 0) 3) (loopB Tryz.prog 84 [true,true,true,false,true,false]) (r5Mix.hd k p1 i l r) (roundK (C:=(mkCx Tryz.prog S tab_kMix 0)) [7,5,6,0] [] J (loopK (mkCx Tryz.prog S tab_kMix 0) 3 84 [true,true,true,false,true,false] (fun r' H'=>Gives r' H' (r5Mix.res v) (r5Mix.news v))))= r5Mix.st k p1 i l r J v:=by kernel_rfl
def r5Mix.rng (k:Int) (p1:Int) (n0:Nat) (i:Int) (l:Int) (r:Int): Prop:=0≤i∧i≤8∧(8 - i).toNat < n0
theorem r5Mix.lp (k:Int) (p1:Int) (v:Int) (n0:Nat) (i:Int) (l:Int) (r:Int) (hv:v=r5Mix.go k p1 n0 i l r) (h0:r5Mix.rng k p1 n0 i l r) (st:St El) (q1:okH [7,5,6,0] [] st=true) (q2:headS [7,5,6,0] [] st=r5Mix.hd k p1 i l r): evCode (mkCx Tryz.prog S tab_kMix 0) (evFun (mkCx Tryz.prog S tab_kMix 0) 3) (.loop (loopB Tryz.prog 84 [true,true,true,false,true,false])) st (loopK (mkCx Tryz.prog S tab_kMix 0) 3 84 [true,true,true,false,true,false] (fun r' H'=>Gives r' H' (r5Mix.res v) (r5Mix.news v))):= by
 refine loop_ev (by kernel_rfl) (evFun_mono _ _) [7,5,6,0] [] (X:=Nat×Int×Int×Int) (fun x=>r5Mix.hd k p1 x.2.1 x.2.2.1 x.2.2.2) (fun x=>x.1) (fun x=>r5Mix.rng k p1 x.1 x.2.1 x.2.2.1 x.2.2.2∧v=r5Mix.go k p1 x.1 x.2.1 x.2.2.1 x.2.2.2) (n0,i,l,r) ⟨q1,q2⟩ ⟨h0,hv⟩ ?_
 clear h0 hv q1 q2
 rintro ⟨n0,i,l,r⟩ ⟨hr,hv⟩
 dsimp only at hr hv
 cases n0 with
 | zero=>exact absurd hr (by unfold r5Mix.rng;omega)
 | succ n0 =>
 unfold r5Mix.rng at hr
 unfold r5Mix.go at hv
 refine (r5Mix.st_ok k p1 i l r _ _).mpr ?_
 unfold r5Mix.st
 revert hv;refine by_cond2 (fun hb hv=>?_) (fun hb hv=>?_)
 ·exact ⟨(n0,(IntKind.wrap IntKind.i64 (i+(1:Int))),(r),(bxorK IntKind.u32 l (r5Round k i r))),(by kernel_rfl),Nat.lt_succ_self n0,(by dsimp only;unfold r5Mix.rng;(try clear hv);(try clear q1 q2);(try clear hk);(try simp only [decide_eq_true_eq,decide_eq_false_iff_not,Bool.not_eq_true,Bool.not_eq_false,Bool.and_eq_true,Bool.or_eq_true,Bool.not_not,cond_and,cond_or,List.length_append,List.length_cons,List.length_nil] at *);have:=wi64s (i+(1:Int));omega),hv⟩
 ·subst hv;exact ⟨rfl,rfl⟩
def r5Mix (k:Int) (p1:Int): Int:=r5Mix.go k p1 (9) ((0:Int)) (IntKind.wrap IntKind.u32 (IntKind.wrap IntKind.u64 (Int.tdiv p1 (4294967296:Int)))) (IntKind.wrap IntKind.u32 (Int.tmod p1 (4294967296:Int)))
def r5Mix.dec (cs:List (AV El)): Option (Int×Int):= popI .u64 cs fun a0 c0=>popI .u64 c0 fun a1 c1=>popE c1 (a0,a1)
def r5Mix.enc (x:Int×Int): List (AV El):= [.v (.int .u64 x.1), .v (.int .u64 x.2)]
theorem r5Mix.dec_ok : ∀cs x,r5Mix.dec cs=some x→Imp (S:=S) cs (r5Mix.enc x):= by
 intro cs x h
 unfold r5Mix.dec at h
 obtain ⟨a0,c0,rfl,h0⟩:= popI_some (S:=S) h
 obtain ⟨a1,c1,rfl,h1⟩:= popI_some (S:=S) h0
 obtain ⟨rfl,rfl⟩:= popE_some (S:=S) h1
 exact (.cons (.cons (.refl _)))
def r5Mix.nf (k:Int) (p1:Int) (v:Int): Prop:=Ob ((4294967296:Int)≠(0:Int))∧(Ob ((4294967296:Int)≠(0:Int))∧(evCode (mkCx Tryz.prog S tab_kMix 0) (evFun (mkCx Tryz.prog S tab_kMix 0) 3) (.loop (loopB Tryz.prog 84 [true,true,true,false,true,false])) ({lo:=0,slots:=[(7, .v (.int .i64 ((0:Int)))),(6, .v (.int .u32 (IntKind.wrap IntKind.u32 (Int.tmod p1 (4294967296:Int))))),(14, .v (.int .u32 (IntKind.wrap IntKind.u32 (Int.tmod p1 (4294967296:Int))))),(13, .v (.int .u64 (Int.tmod p1 (4294967296:Int)))),(12, .v (.int .u64 (p1))),(5, .v (.int .u32 (IntKind.wrap IntKind.u32 (IntKind.wrap IntKind.u64 (Int.tdiv p1 (4294967296:Int)))))),(11, .v (.int .u32 (IntKind.wrap IntKind.u32 (IntKind.wrap IntKind.u64 (Int.tdiv p1 (4294967296:Int)))))),(10, .v (.int .u64 (IntKind.wrap IntKind.u64 (Int.tdiv p1 (4294967296:Int))))),(9, .v (.int .u64 (p1))),(4, .v (.int .u64 ((0:Int)))),(0, .v (.int .u64 (k))),(1, .v (.int .u64 (p1)))],n:=33,objs:=[]}) (loopK (mkCx Tryz.prog S tab_kMix 0) 3 84 [true,true,true,false,true,false] (fun r' H'=>Gives r' H' (r5Mix.res v) (r5Mix.news v)))))
theorem r5Mix.nf_ok (k:Int) (p1:Int) (v:Int): evFun (mkCx Tryz.prog S tab_kMix 0) 4 84 [.v (.int .u64 k), .v (.int .u64 p1)] [] (fun r' H'=>Gives r' H' (r5Mix.res v) (r5Mix.news v))= r5Mix.nf k p1 v:=by kernel_rfl
theorem r5Mix.key (k:Int) (p1:Int) (v:Int) (hv:v=r5Mix k p1): r5Mix.nf k p1 v:=by
 unfold r5Mix at hv
 unfold r5Mix.nf
 refine ⟨⟨?_⟩, ?_⟩;rotate_left
 refine ⟨⟨?_⟩, ?_⟩;rotate_left
 exact r5Mix.lp k p1 v _ _ _ _ hv (by unfold r5Mix.rng;(try clear hv);(try clear q1 q2);(try clear hk);(first | omega | (simp only [List.length_nil];omega)| (simp;omega))) _ (by kernel_rfl) (by kernel_rfl)
 all_goals ((try clear hv);(try clear q1 q2);(try clear hk);(first | omega | ((try simp only [decide_eq_true_eq,decide_eq_false_iff_not,Bool.not_eq_true,Bool.not_eq_false,Bool.and_eq_true,Bool.or_eq_true,Bool.not_not,cond_and,cond_or,List.length_append,List.length_cons,List.length_nil] at *);(first | done | ((first | omega | (intros;(try simp only [Bool.not_not,cond_and,cond_or,Bool.and_eq_true,decide_eq_true_eq] at *);(exact band_nn rfl _ _))| (intros;(try simp only [Bool.not_not,cond_and,cond_or,Bool.and_eq_true,decide_eq_true_eq] at *);(exact (wu64s _).2.1))| (intros;(try simp only [Bool.not_not,cond_and,cond_or,Bool.and_eq_true,decide_eq_true_eq] at *);(simp only [Bool.or_eq_false_iff,Bool.and_eq_false_iff,decide_eq_false_iff_not,decide_eq_true_eq,bne_iff_ne,beq_iff_eq,bne_eq_false_iff_eq,beq_eq_false_iff_ne,ne_eq,true_and] at *;omega))| (intros;(try simp only [Bool.not_not,cond_and,cond_or,Bool.and_eq_true,decide_eq_true_eq] at *);(simp only [List.length_drop,List.length_take,List.length_append,List.length_cons,List.length_nil] at *;omega))| (intros;(try simp only [Bool.not_not,cond_and,cond_or,Bool.and_eq_true,decide_eq_true_eq] at *);(exact aPart_nn _))| (intros;(try simp only [Bool.not_not,cond_and,cond_or,Bool.and_eq_true,decide_eq_true_eq] at *);(have hpl:=prefixes_len;simp only [Bool.or_eq_false_iff,decide_eq_false_iff_not] at *;omega))| (intros;omega)| (intros;simp only [sized_iff,Bool.not_not,cond_and,cond_or,Bool.and_eq_true,decide_eq_true_eq] at *;omega)| (intros;simp_all [sized_iff,Bool.not_not];done)))))))
def r5Mix.ct:Ct El:=ctOf r5Mix.dec (fun _=>[]) (fun x=>r5Mix.res (r5Mix x.1 x.2)) (fun x=>r5Mix.news (r5Mix x.1 x.2))
theorem r5Mix.ok:CtOk (mkCx Tryz.prog S [] 0) 84 r5Mix.ct:=ct_mk (C:=(mkCx Tryz.prog S tab_kMix 0)) (mkCx_ok sigOk mixed tab_kMix_ok 0) r5Mix.dec_ok (fun x=>rfl) 4 (fun x _=>(r5Mix.nf_ok x.1 x.2 _).mpr (r5Mix.key x.1 x.2 _ rfl))
def tab_r5Mix:List (FuncId×Ct El):= (84,r5Mix.ct):: tab_kMix
theorem tab_r5Mix_ok:TabOk Tryz.prog S tab_r5Mix:=⟨r5Mix.ok,by kernel_rfl,tab_kMix_ok⟩
def mBytes.res (r:(List Int)): AV El:=.gs 0
def mBytes.news (r:(List Int)): List (AObj El):= [.row 5 (r:List (El 5))]
def mBytes.L (e v:(List Int)): Prop:=mBytes.res e=mBytes.res v∧mBytes.news e=mBytes.news v
def mBytes.go (numbers:List Int): Nat→Int→(List Field)→(List Int)
 | 0,_,_=>[]
 | n0+1,i,out=>cond (decide (i < (↑(List.length numbers): Int))) (mBytes.go numbers n0 (IntKind.wrap IntKind.i64 (i+(1:Int))) (out ++ [{Size:=(8:Int),Value:=List.getD numbers (Int.toNat i) (0:Int): Field}])) ((oPut out).fst)
def mBytes.hd (numbers:List Int) (i:Int) (out:List Field): St El:={lo:=0,slots:=[(10, .v (.int .i64 (i))),(9, .v (.int .i64 ((↑(List.length numbers): Int)))),(8, .sl 24 (numbers:List (El 24)) false),(3, .gs 0)],n:=26,objs:=[.row 123 (out:List (El 123))]}
def mBytes.st (numbers:List Int) (i:Int) (out:List Field) (J:St El→Prop) (v:(List Int)): Prop:=cond (decide (i < (↑(List.length numbers): Int))) (Ob ((0:Int)≤i∧i < (↑(List.length numbers): Int))∧(Ob ((List.length out+List.length [{Size:=(8:Int),Value:=List.getD numbers (Int.toNat i) (0:Int): Field}])* (16:Nat)≤(140737488355328:Nat))∧(J (mBytes.hd numbers (IntKind.wrap IntKind.i64 (i+(1:Int))) (out ++ [{Size:=(8:Int),Value:=List.getD numbers (Int.toNat i) (0:Int): Field}]))))) (Ob (List.length out≤(1099511627776:Nat))∧(mBytes.L ((oPut out).fst) v))
theorem mBytes.st_ok (numbers:List Int) (i:Int) (out:List Field) (J:St El→Prop) (v:(List Int)): evCode (mkCx Tryz.prog S tab_r5Mix 0) (evFun (mkCx Tryz.prog S tab_r5Mix 0) 3) (loopB Tryz.prog 70 [true,true,false,true,false]) (mBytes.hd numbers i out) (roundK (C:=(mkCx Tryz.prog S tab_r5Mix 0)) [10,9,8,3] [.slot 3 123] J (loopK (mkCx Tryz.prog S tab_r5Mix 0) 3 70 [true,true,false,true,false] (fun r' H'=>Gives r' H' (mBytes.res v) (mBytes.news v))))= mBytes.st numbers i out J v:=by kernel_rfl
def mBytes.rng (numbers:List Int) (n0:Nat) (i:Int) (out:List Field): Prop:=0≤i∧i≤numbers.length∧(numbers.length - i).toNat < n0∧numbers.length≤1099511627776∧out.length=i
theorem mBytes.lp (numbers:List Int) (hp:numbers.length≤1099511627776) (v:(List Int)) (n0:Nat) (i:Int) (out:List Field) (hv:v=mBytes.go numbers n0 i out) (h0:mBytes.rng numbers n0 i out) (st:St El) (q1:okH [10,9,8,3] [.slot 3 123] st=true) (q2:headS [10,9,8,3] [.slot 3 123] st=mBytes.hd numbers i out): evCode (mkCx Tryz.prog S tab_r5Mix 0) (evFun (mkCx Tryz.prog S tab_r5Mix 0) 3) (.loop (loopB Tryz.prog 70 [true,true,false,true,false])) st (loopK (mkCx Tryz.prog S tab_r5Mix 0) 3 70 [true,true,false,true,false] (fun r' H'=>Gives r' H' (mBytes.res v) (mBytes.news v))):= by
 refine loop_ev (by kernel_rfl) (evFun_mono _ _) [10,9,8,3] [.slot 3 123] (X:=Nat×Int×(List Field)) (fun x=>mBytes.hd numbers x.2.1 x.2.2) (fun x=>x.1) (fun x=>mBytes.rng numbers x.1 x.2.1 x.2.2∧v=mBytes.go numbers x.1 x.2.1 x.2.2) (n0,i,out) ⟨q1,q2⟩ ⟨h0,hv⟩ ?_
 clear h0 hv q1 q2
 rintro ⟨n0,i,out⟩ ⟨hr,hv⟩
 dsimp only at hr hv
 cases n0 with
 | zero=>exact absurd hr (by unfold mBytes.rng;omega)
 | succ n0 =>
 unfold mBytes.rng at hr
 unfold mBytes.go at hv
 refine (mBytes.st_ok numbers i out _ _).mpr ?_
 unfold mBytes.st
 revert hv;refine by_cond2 (fun hb hv=>?_) (fun hb hv=>?_)
 refine ⟨⟨?_⟩, ?_⟩;rotate_left
 refine ⟨⟨?_⟩, ?_⟩;rotate_left
 exact ⟨(n0,(IntKind.wrap IntKind.i64 (i+(1:Int))),(out ++ [{Size:=(8:Int),Value:=List.getD numbers (Int.toNat i) (0:Int): Field}])),(by kernel_rfl),Nat.lt_succ_self n0,(by dsimp only;unfold mBytes.rng;(try clear hv);(try clear q1 q2);(try clear hk);(try simp only [decide_eq_true_eq,decide_eq_false_iff_not,Bool.not_eq_true,Bool.not_eq_false,Bool.and_eq_true,Bool.or_eq_true,Bool.not_not,cond_and,cond_or,List.length_append,List.length_cons,List.length_nil] at *);have:=wi64s (i+(1:Int));omega),hv⟩
 refine ⟨⟨?_⟩, ?_⟩;rotate_left
 subst hv;exact ⟨rfl,rfl⟩
 all_goals ((try clear hv);(try clear q1 q2);(try clear hk);(first | omega | ((try simp only [decide_eq_true_eq,decide_eq_false_iff_not,Bool.not_eq_true,Bool.not_eq_false,Bool.and_eq_true,Bool.or_eq_true,Bool.not_not,cond_and,cond_or,List.length_append,List.length_cons,List.length_nil] at *);(first | done | ((first | omega | (intros;(try simp only [Bool.not_not,cond_and,cond_or,Bool.and_eq_true,decide_eq_true_eq] at *);(exact band_nn rfl _ _))| (intros;(try simp only [Bool.not_not,cond_and,cond_or,Bool.and_eq_true,decide_eq_true_eq] at *);(exact (wu64s _).2.1))| (intros;(try simp only [Bool.not_not,cond_and,cond_or,Bool.and_eq_true,decide_eq_true_eq] at *);(simp only [Bool.or_eq_false_iff,Bool.and_eq_false_iff,decide_eq_false_iff_not,decide_eq_true_eq,bne_iff_ne,beq_iff_eq,bne_eq_false_iff_eq,beq_eq_false_iff_ne,ne_eq,true_and] at *;omega))| (intros;(try simp only [Bool.not_not,cond_and,cond_or,Bool.and_eq_true,decide_eq_true_eq] at *);(simp only [List.length_drop,List.length_take,List.length_append,List.length_cons,List.length_nil] at *;omega))| (intros;(try simp only [Bool.not_not,cond_and,cond_or,Bool.and_eq_true,decide_eq_true_eq] at *);(exact aPart_nn _))| (intros;(try simp only [Bool.not_not,cond_and,cond_or,Bool.and_eq_true,decide_eq_true_eq] at *);(have hpl:=prefixes_len;simp only [Bool.or_eq_false_iff,decide_eq_false_iff_not] at *;omega))| (intros;omega)| (intros;simp only [sized_iff,Bool.not_not,cond_and,cond_or,Bool.and_eq_true,decide_eq_true_eq] at *;omega)| (intros;simp_all [sized_iff,Bool.not_not];done)))))))
def mBytes (numbers:List Int): (List Int):= mBytes.go numbers (numbers.length+1) ((0:Int)) ([])
def mBytes.dec (cs:List (AV El)): Option ((List Int)):= popS 24 cs fun a0 c0=>popE c0 a0
def mBytes.enc (x:(List Int)): List (AV El):= [.sl 24 (x:List (El 24)) false]
theorem mBytes.dec_ok : ∀cs x,mBytes.dec cs=some x→Imp (S:=S) cs (mBytes.enc x):= by
 intro cs x h
 unfold mBytes.dec at h
 obtain ⟨a0,c0,h0,k0⟩:= popS_some (S:=S) (t:=24) h
 obtain ⟨rfl,rfl⟩:= popE_some (S:=S) h0
 exact (k0 _ (.refl _))
def mBytes.nf (numbers:List Int) (v:(List Int)): Prop:=(List.length numbers≤(9223372036854775807:Nat))→(evCode (mkCx Tryz.prog S tab_r5Mix 0) (evFun (mkCx Tryz.prog S tab_r5Mix 0) 3) (.loop (loopB Tryz.prog 70 [true,true,false,true,false])) ({lo:=0,slots:=[(10, .v (.int .i64 ((0:Int)))),(9, .v (.int .i64 ((↑(List.length numbers): Int)))),(8, .sl 24 (numbers:List (El 24)) false),(3, .v (.slice none 0 0)),(2, .v (.slice none 0 0)),(0, .sl 24 (numbers:List (El 24)) false)],n:=26,objs:=[]}) (loopK (mkCx Tryz.prog S tab_r5Mix 0) 3 70 [true,true,false,true,false] (fun r' H'=>Gives r' H' (mBytes.res v) (mBytes.news v))))
theorem mBytes.nf_ok (numbers:List Int) (v:(List Int)): evFun (mkCx Tryz.prog S tab_r5Mix 0) 4 70 [.sl 24 (numbers:List (El 24)) false] [] (fun r' H'=>Gives r' H' (mBytes.res v) (mBytes.news v))= mBytes.nf numbers v:=by kernel_rfl
theorem mBytes.key (numbers:List Int) (hp:numbers.length≤1099511627776) (v:(List Int)) (hv:v=mBytes numbers): mBytes.nf numbers v:=by
 unfold mBytes at hv
 unfold mBytes.nf
 intro hlen
 exact mBytes.lp numbers hp v _ _ _ hv (by unfold mBytes.rng;(try clear hv);(try clear q1 q2);(try clear hk);(first | omega | (simp only [List.length_nil];omega)| (simp;omega))) _ (by kernel_rfl) (by kernel_rfl)
def mBytes.ct:Ct El:=ctOf mBytes.dec (fun x=>[x.length≤1099511627776]) (fun x=>mBytes.res (mBytes x)) (fun x=>mBytes.news (mBytes x))
theorem mBytes.ok:CtOk (mkCx Tryz.prog S [] 0) 70 mBytes.ct:=ct_mk (C:=(mkCx Tryz.prog S tab_r5Mix 0)) (mkCx_ok sigOk mixed tab_r5Mix_ok 0) mBytes.dec_ok (fun x=>rfl) 4 (fun x hp=>(mBytes.nf_ok x _).mpr (mBytes.key x (hp _ (List.mem_singleton.2 rfl)) _ rfl))
def tab_mBytes:List (FuncId×Ct El):= (70,mBytes.ct):: tab_r5Mix
theorem tab_mBytes_ok:TabOk Tryz.prog S tab_mBytes:=⟨mBytes.ok,by kernel_rfl,tab_r5Mix_ok⟩
end Go.Aw.W
