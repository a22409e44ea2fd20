/- Contracts of the seat (printed by ct.py). -/
import Derived.Test.YtppceadhdckpmaaGreatDoorXW1
set_option linter.unusedVariables false
set_option linter.unusedSimpArgs false
set_option maxRecDepth 20000
set_option maxHeartbeats 1000000
namespace Go.Aw.W
open Go Go.Aw Go.Proofs
attribute [local irreducible] evCode evFun evOps evDs evOne ctxK loopK loopB subC bodyC headS okH roundK
def aPart.res (r:Int×Int): AV El:=.tup [.v (.int .u64 (r.1)), .v (.int .i64 (r.2))]
def aPart.news (r:Int×Int): List (AObj El):= []
def aPart.L (e v:Int×Int): Prop:=aPart.res e=aPart.res v∧aPart.news e=aPart.news v
def aPart (a:Address): Int×Int:=cond (a.Kind==(3:Int)) ((bandK IntKind.u64 (shrK IntKind.u64 a.Bits (24:Int)) (aMask (22:Int)),(22:Int))) ((bandK IntKind.u64 a.Bits (aMask (46:Int)),(46:Int)))
def aPart.dec (cs:List (AV El)): Option (Address):= popA Address.dec cs fun a0 c0=>popE c0 a0
def aPart.enc (x:Address): List (AV El):= [Address.av x]
theorem aPart.dec_ok : ∀cs x,aPart.dec cs=some x→Imp (S:=S) cs (aPart.enc x):= by
 intro cs x h
 unfold aPart.dec at h
 obtain ⟨a0,c0,h0,k0⟩:= popA_some (S:=S) Address.dec_ok h
 obtain ⟨rfl,rfl⟩:= popE_some (S:=S) h0
 exact (k0 _ (.refl _))
def aPart.nf (a:Address) (v:Int×Int): Prop:=cond (a.Kind==(3:Int)) (Ob ((0:Int)≤(24:Int))∧(Ob ((0:Int)≤(22:Int))∧(aPart.L ((bandK IntKind.u64 (shrK IntKind.u64 a.Bits (24:Int)) (aMask (22:Int)),(22:Int))) v))) (Ob ((0:Int)≤(46:Int))∧(aPart.L ((bandK IntKind.u64 a.Bits (aMask (46:Int)),(46:Int))) v))
theorem aPart.nf_ok (a:Address) (v:Int×Int): evFun (mkCx Tryz.prog S tab_r5Low 0) 4 41 [Address.av a] [] (fun r' H'=>Gives r' H' (aPart.res v) (aPart.news v))= aPart.nf a v:=by kernel_rfl
theorem aPart.key (a:Address) (v:Int×Int) (hv:v=aPart a): aPart.nf a v:=by
 unfold aPart at hv
 unfold aPart.nf
 revert hv;refine by_cond2 (fun hb hv=>?_) (fun hb hv=>?_)
 refine ⟨⟨?_⟩, ?_⟩;rotate_left
 refine ⟨⟨?_⟩, ?_⟩;rotate_left
 subst hv;exact ⟨rfl,rfl⟩
 refine ⟨⟨?_⟩, ?_⟩;rotate_left
 subst hv;exact ⟨rfl,rfl⟩
 all_goals ((try clear hv);(try clear q1 q2);(try clear hk);(first | omega | ((try simp only [decide_eq_true_eq,decide_eq_false_iff_not,Bool.not_eq_true,Bool.not_eq_false,Bool.and_eq_true,Bool.or_eq_true,Bool.not_not,cond_and,cond_or,List.length_append,List.length_cons,List.length_nil] at *);(first | done | ((first | omega | (intros;(try simp only [Bool.not_not,cond_and,cond_or,Bool.and_eq_true,decide_eq_true_eq] at *);(exact band_nn rfl _ _))| (intros;(try simp only [Bool.not_not,cond_and,cond_or,Bool.and_eq_true,decide_eq_true_eq] at *);(exact (wu64s _).2.1))| (intros;(try simp only [Bool.not_not,cond_and,cond_or,Bool.and_eq_true,decide_eq_true_eq] at *);(simp only [Bool.or_eq_false_iff,Bool.and_eq_false_iff,decide_eq_false_iff_not,decide_eq_true_eq,bne_iff_ne,beq_iff_eq,bne_eq_false_iff_eq,beq_eq_false_iff_ne,ne_eq,true_and] at *;omega))| (intros;(try simp only [Bool.not_not,cond_and,cond_or,Bool.and_eq_true,decide_eq_true_eq] at *);(simp only [List.length_drop,List.length_take,List.length_append,List.length_cons,List.length_nil] at *;omega))| (intros;omega)| (intros;simp only [Bool.not_not,cond_and,cond_or,Bool.and_eq_true,decide_eq_true_eq] at *;omega)| (intros;simp_all [Bool.not_not];done)))))))
def aPart.ct:Ct El:=ctOf aPart.dec (fun _=>[]) (fun x=>aPart.res (aPart x)) (fun x=>aPart.news (aPart x))
theorem aPart.ok:CtOk (mkCx Tryz.prog S [] 0) 41 aPart.ct:=ct_mk (C:=(mkCx Tryz.prog S tab_r5Low 0)) (mkCx_ok sigOk mixed tab_r5Low_ok 0) aPart.dec_ok (fun x=>rfl) 4 (fun x _=>(aPart.nf_ok x _).mpr (aPart.key x _ rfl))
def tab_aPart:List (FuncId×Ct El):= (41,aPart.ct):: tab_r5Low
theorem tab_aPart_ok:TabOk Tryz.prog S tab_aPart:=⟨aPart.ok,by kernel_rfl,tab_r5Low_ok⟩
def kRound.res (r:Int): AV El:=.v (.int .u32 (r))
def kRound.news (r:Int): List (AObj El):= []
def kRound.L (e v:Int): Prop:=kRound.res e=kRound.res v∧kRound.news e=kRound.news v
def kRound (k:Int) (i:Int) (half:Int): Int:=bxorK IntKind.u32 (IntKind.wrap IntKind.u32 (rotl32 (IntKind.wrap IntKind.u32 (half+IntKind.wrap IntKind.u32 (sLow (rotl64 k (Int.tmod (IntKind.wrap IntKind.i64 ((11:Int)* Int.tmod i (64:Int))) (64:Int))) (32:Int)))) (7:Int)* (2654435761:Int))) (rotl32 (IntKind.wrap IntKind.u32 (sLow (rotl64 k (Int.tmod (IntKind.wrap IntKind.i64 ((11:Int)* Int.tmod i (64:Int))) (64:Int))) (32:Int))) (16:Int))
def kRound.dec (cs:List (AV El)): Option (Int×Int×Int):= popI .u64 cs fun a0 c0=>popI .i64 c0 fun a1 c1=>popI .u32 c1 fun a2 c2=>popE c2 (a0,a1,a2)
def kRound.enc (x:Int×Int×Int): List (AV El):= [.v (.int .u64 x.1), .v (.int .i64 x.2.1), .v (.int .u32 x.2.2)]
theorem kRound.dec_ok : ∀cs x,kRound.dec cs=some x→Imp (S:=S) cs (kRound.enc x):= by
 intro cs x h
 unfold kRound.dec at h
 obtain ⟨a0,c0,rfl,h0⟩:= popI_some (S:=S) h
 obtain ⟨a1,c1,rfl,h1⟩:= popI_some (S:=S) h0
 obtain ⟨a2,c2,rfl,h2⟩:= popI_some (S:=S) h1
 obtain ⟨rfl,rfl⟩:= popE_some (S:=S) h2
 exact (.cons (.cons (.cons (.refl _))))
def kRound.nf (k:Int) (i:Int) (half:Int) (v:Int): Prop:=Ob ((64:Int)≠(0:Int))∧(Ob ((64:Int)≠(0:Int))∧(kRound.L (bxorK IntKind.u32 (IntKind.wrap IntKind.u32 (rotl32 (IntKind.wrap IntKind.u32 (half+IntKind.wrap IntKind.u32 (sLow (rotl64 k (Int.tmod (IntKind.wrap IntKind.i64 ((11:Int)* Int.tmod i (64:Int))) (64:Int))) (32:Int)))) (7:Int)* (2654435761:Int))) (rotl32 (IntKind.wrap IntKind.u32 (sLow (rotl64 k (Int.tmod (IntKind.wrap IntKind.i64 ((11:Int)* Int.tmod i (64:Int))) (64:Int))) (32:Int))) (16:Int))) v))
theorem kRound.nf_ok (k:Int) (i:Int) (half:Int) (v:Int): evFun (mkCx Tryz.prog S tab_r5Low 0) 4 90 [.v (.int .u64 k), .v (.int .i64 i), .v (.int .u32 half)] [] (fun r' H'=>Gives r' H' (kRound.res v) (kRound.news v))= kRound.nf k i half v:=by kernel_rfl
theorem kRound.key (k:Int) (i:Int) (half:Int) (v:Int) (hv:v=kRound k i half): kRound.nf k i half v:=by
 unfold kRound at hv
 unfold kRound.nf
 refine ⟨⟨?_⟩, ?_⟩;rotate_left
 refine ⟨⟨?_⟩, ?_⟩;rotate_left
 subst hv;exact ⟨rfl,rfl⟩
 all_goals ((try clear hv);(try clear q1 q2);(try clear hk);(first | omega | ((try simp only [decide_eq_true_eq,decide_eq_false_iff_not,Bool.not_eq_true,Bool.not_eq_false,Bool.and_eq_true,Bool.or_eq_true,Bool.not_not,cond_and,cond_or,List.length_append,List.length_cons,List.length_nil] at *);(first | done | ((first | omega | (intros;(try simp only [Bool.not_not,cond_and,cond_or,Bool.and_eq_true,decide_eq_true_eq] at *);(exact band_nn rfl _ _))| (intros;(try simp only [Bool.not_not,cond_and,cond_or,Bool.and_eq_true,decide_eq_true_eq] at *);(exact (wu64s _).2.1))| (intros;(try simp only [Bool.not_not,cond_and,cond_or,Bool.and_eq_true,decide_eq_true_eq] at *);(simp only [Bool.or_eq_false_iff,Bool.and_eq_false_iff,decide_eq_false_iff_not,decide_eq_true_eq,bne_iff_ne,beq_iff_eq,bne_eq_false_iff_eq,beq_eq_false_iff_ne,ne_eq,true_and] at *;omega))| (intros;(try simp only [Bool.not_not,cond_and,cond_or,Bool.and_eq_true,decide_eq_true_eq] at *);(simp only [List.length_drop,List.length_take,List.length_append,List.length_cons,List.length_nil] at *;omega))| (intros;omega)| (intros;simp only [Bool.not_not,cond_and,cond_or,Bool.and_eq_true,decide_eq_true_eq] at *;omega)| (intros;simp_all [Bool.not_not];done)))))))
def kRound.ct:Ct El:=ctOf kRound.dec (fun _=>[]) (fun x=>kRound.res (kRound x.1 x.2.1 x.2.2)) (fun x=>kRound.news (kRound x.1 x.2.1 x.2.2))
theorem kRound.ok:CtOk (mkCx Tryz.prog S [] 0) 90 kRound.ct:=ct_mk (C:=(mkCx Tryz.prog S tab_r5Low 0)) (mkCx_ok sigOk mixed tab_r5Low_ok 0) kRound.dec_ok (fun x=>rfl) 4 (fun x _=>(kRound.nf_ok x.1 x.2.1 x.2.2 _).mpr (kRound.key x.1 x.2.1 x.2.2 _ rfl))
def tab_kRound:List (FuncId×Ct El):= (90,kRound.ct):: tab_aPart
theorem tab_kRound_ok:TabOk Tryz.prog S tab_kRound:=⟨kRound.ok,by kernel_rfl,tab_aPart_ok⟩
def r5Round.res (r:Int): AV El:=.v (.int .u32 (r))
def r5Round.news (r:Int): List (AObj El):= []
def r5Round.L (e v:Int): Prop:=r5Round.res e=r5Round.res v∧r5Round.news e=r5Round.news v
def r5Round (k:Int) (i:Int) (half:Int): Int:=bxorK IntKind.u32 (IntKind.wrap IntKind.u32 (r5Turn (IntKind.wrap IntKind.u32 (half+r5Low k i)) (7:Int)* (2654435761:Int))) (r5Turn (r5Low k i) (16:Int))
def r5Round.dec (cs:List (AV El)): Option (Int×Int×Int):= popI .u64 cs fun a0 c0=>popI .i64 c0 fun a1 c1=>popI .u32 c1 fun a2 c2=>popE c2 (a0,a1,a2)
def r5Round.enc (x:Int×Int×Int): List (AV El):= [.v (.int .u64 x.1), .v (.int .i64 x.2.1), .v (.int .u32 x.2.2)]
theorem r5Round.dec_ok : ∀cs x,r5Round.dec cs=some x→Imp (S:=S) cs (r5Round.enc x):= by
 intro cs x h
 unfold r5Round.dec at h
 obtain ⟨a0,c0,rfl,h0⟩:= popI_some (S:=S) h
 obtain ⟨a1,c1,rfl,h1⟩:= popI_some (S:=S) h0
 obtain ⟨a2,c2,rfl,h2⟩:= popI_some (S:=S) h1
 obtain ⟨rfl,rfl⟩:= popE_some (S:=S) h2
 exact (.cons (.cons (.cons (.refl _))))
def r5Round.nf (k:Int) (i:Int) (half:Int) (v:Int): Prop:=Ob ((0:Int)≤(7:Int)∧(7:Int)≤(32:Int))∧(Ob ((0:Int)≤(16:Int)∧(16:Int)≤(32:Int))∧(r5Round.L (bxorK IntKind.u32 (IntKind.wrap IntKind.u32 (r5Turn (IntKind.wrap IntKind.u32 (half+r5Low k i)) (7:Int)* (2654435761:Int))) (r5Turn (r5Low k i) (16:Int))) v))
theorem r5Round.nf_ok (k:Int) (i:Int) (half:Int) (v:Int): evFun (mkCx Tryz.prog S tab_r5Low 0) 4 94 [.v (.int .u64 k), .v (.int .i64 i), .v (.int .u32 half)] [] (fun r' H'=>Gives r' H' (r5Round.res v) (r5Round.news v))= r5Round.nf k i half v:=by kernel_rfl
theorem r5Round.key (k:Int) (i:Int) (half:Int) (v:Int) (hv:v=r5Round k i half): r5Round.nf k i half v:=by
 unfold r5Round at hv
 unfold r5Round.nf
 refine ⟨⟨?_⟩, ?_⟩;rotate_left
 refine ⟨⟨?_⟩, ?_⟩;rotate_left
 subst hv;exact ⟨rfl,rfl⟩
 all_goals ((try clear hv);(try clear q1 q2);(try clear hk);(first | omega | ((try simp only [decide_eq_true_eq,decide_eq_false_iff_not,Bool.not_eq_true,Bool.not_eq_false,Bool.and_eq_true,Bool.or_eq_true,Bool.not_not,cond_and,cond_or,List.length_append,List.length_cons,List.length_nil] at *);(first | done | ((first | omega | (intros;(try simp only [Bool.not_not,cond_and,cond_or,Bool.and_eq_true,decide_eq_true_eq] at *);(exact band_nn rfl _ _))| (intros;(try simp only [Bool.not_not,cond_and,cond_or,Bool.and_eq_true,decide_eq_true_eq] at *);(exact (wu64s _).2.1))| (intros;(try simp only [Bool.not_not,cond_and,cond_or,Bool.and_eq_true,decide_eq_true_eq] at *);(simp only [Bool.or_eq_false_iff,Bool.and_eq_false_iff,decide_eq_false_iff_not,decide_eq_true_eq,bne_iff_ne,beq_iff_eq,bne_eq_false_iff_eq,beq_eq_false_iff_ne,ne_eq,true_and] at *;omega))| (intros;(try simp only [Bool.not_not,cond_and,cond_or,Bool.and_eq_true,decide_eq_true_eq] at *);(simp only [List.length_drop,List.length_take,List.length_append,List.length_cons,List.length_nil] at *;omega))| (intros;omega)| (intros;simp only [Bool.not_not,cond_and,cond_or,Bool.and_eq_true,decide_eq_true_eq] at *;omega)| (intros;simp_all [Bool.not_not];done)))))))
def r5Round.ct:Ct El:=ctOf r5Round.dec (fun _=>[]) (fun x=>r5Round.res (r5Round x.1 x.2.1 x.2.2)) (fun x=>r5Round.news (r5Round x.1 x.2.1 x.2.2))
theorem r5Round.ok:CtOk (mkCx Tryz.prog S [] 0) 94 r5Round.ct:=ct_mk (C:=(mkCx Tryz.prog S tab_r5Low 0)) (mkCx_ok sigOk mixed tab_r5Low_ok 0) r5Round.dec_ok (fun x=>rfl) 4 (fun x _=>(r5Round.nf_ok x.1 x.2.1 x.2.2 _).mpr (r5Round.key x.1 x.2.1 x.2.2 _ rfl))
def tab_r5Round:List (FuncId×Ct El):= (94,r5Round.ct):: tab_kRound
theorem tab_r5Round_ok:TabOk Tryz.prog S tab_r5Round:=⟨r5Round.ok,by kernel_rfl,tab_kRound_ok⟩
def r8Check.res (r:Int): AV El:=.v (.int .i64 (r))
def r8Check.news (r:Int): List (AObj El):= []
def r8Check.L (e v:Int): Prop:=r8Check.res e=r8Check.res v∧r8Check.news e=r8Check.news v
def r8Check (a:Address): Int:=cond (bif decide (a.Kind < (1:Int)) then true else decide ((4:Int) < a.Kind)) ((12:Int)) (cond (decide ((281474976710656:Int)≤a.Bits)) ((5:Int)) (cond (a.Kind==(1:Int)) ((0:Int)) (cond (a.Kind==(3:Int)) (cond (bif bif IntKind.wrap IntKind.u64 (Int.tdiv a.Bits (70368744177664:Int)) != r8prefix a.Kind then true else IntKind.wrap IntKind.u64 (Int.tdiv (Int.tmod a.Bits (70368744177664:Int)) (16777216:Int))== (0:Int) then true else IntKind.wrap IntKind.u64 (Int.tdiv (Int.tmod a.Bits (70368744177664:Int)) (16777216:Int))== (4194303:Int)) ((1:Int)) ((0:Int))) (cond (bif bif IntKind.wrap IntKind.u64 (Int.tdiv a.Bits (70368744177664:Int)) != r8prefix a.Kind then true else Int.tmod a.Bits (70368744177664:Int)== (0:Int) then true else Int.tmod a.Bits (70368744177664:Int)== (70368744177663:Int)) ((1:Int)) ((0:Int))))))
def r8Check.dec (cs:List (AV El)): Option (Address):= popA Address.dec cs fun a0 c0=>popE c0 a0
def r8Check.enc (x:Address): List (AV El):= [Address.av x]
theorem r8Check.dec_ok : ∀cs x,r8Check.dec cs=some x→Imp (S:=S) cs (r8Check.enc x):= by
 intro cs x h
 unfold r8Check.dec at h
 obtain ⟨a0,c0,h0,k0⟩:= popA_some (S:=S) Address.dec_ok h
 obtain ⟨rfl,rfl⟩:= popE_some (S:=S) h0
 exact (k0 _ (.refl _))
def r8Check.nf (a:Address) (v:Int): Prop:=Ob (o3 (!decide (a.Kind < (1:Int))))∧(Ob (o3 (!decide (a.Kind < (1:Int))))∧(Ob (on (decide (a.Kind < (1:Int))))∧(cond (bif decide (a.Kind < (1:Int)) then true else decide ((4:Int) < a.Kind)) (r8Check.L ((12:Int)) v) (cond (decide ((281474976710656:Int)≤a.Bits)) (r8Check.L ((5:Int)) v) (cond (a.Kind==(1:Int)) (r8Check.L ((0:Int)) v) (Ob ((70368744177664:Int)≠(0:Int))∧(cond (a.Kind==(3:Int)) (Ob ((16777216:Int)≠(0:Int))∧(Ob ((70368744177664:Int)≠(0:Int))∧(Ob (o3 (!IntKind.wrap IntKind.u64 (Int.tdiv a.Bits (70368744177664:Int)) != r8prefix a.Kind))∧(Ob (on (IntKind.wrap IntKind.u64 (Int.tdiv a.Bits (70368744177664:Int)) != r8prefix a.Kind))∧(Ob (o3 (!bif IntKind.wrap IntKind.u64 (Int.tdiv a.Bits (70368744177664:Int)) != r8prefix a.Kind then true else IntKind.wrap IntKind.u64 (Int.tdiv (Int.tmod a.Bits (70368744177664:Int)) (16777216:Int))== (0:Int)))∧(Ob (o3 (!bif IntKind.wrap IntKind.u64 (Int.tdiv a.Bits (70368744177664:Int)) != r8prefix a.Kind then true else IntKind.wrap IntKind.u64 (Int.tdiv (Int.tmod a.Bits (70368744177664:Int)) (16777216:Int))== (0:Int)))∧(Ob (on (bif IntKind.wrap IntKind.u64 (Int.tdiv a.Bits (70368744177664:Int)) != r8prefix a.Kind then true else IntKind.wrap IntKind.u64 (Int.tdiv (Int.tmod a.Bits (70368744177664:Int)) (16777216:Int))== (0:Int)))∧(cond (bif bif IntKind.wrap IntKind.u64 (Int.tdiv a.Bits (70368744177664:Int)) != r8prefix a.Kind then true else IntKind.wrap IntKind.u64 (Int.tdiv (Int.tmod a.Bits (70368744177664:Int)) (16777216:Int))== (0:Int) then true else IntKind.wrap IntKind.u64 (Int.tdiv (Int.tmod a.Bits (70368744177664:Int)) (16777216:Int))== (4194303:Int)) (r8Check.L ((1:Int)) v) (r8Check.L ((0:Int)) v))))))))) (Ob ((70368744177664:Int)≠(0:Int))∧(Ob (o3 (!IntKind.wrap IntKind.u64 (Int.tdiv a.Bits (70368744177664:Int)) != r8prefix a.Kind))∧(Ob (on (IntKind.wrap IntKind.u64 (Int.tdiv a.Bits (70368744177664:Int)) != r8prefix a.Kind))∧(Ob (o3 (!bif IntKind.wrap IntKind.u64 (Int.tdiv a.Bits (70368744177664:Int)) != r8prefix a.Kind then true else Int.tmod a.Bits (70368744177664:Int)== (0:Int)))∧(Ob (o3 (!bif IntKind.wrap IntKind.u64 (Int.tdiv a.Bits (70368744177664:Int)) != r8prefix a.Kind then true else Int.tmod a.Bits (70368744177664:Int)== (0:Int)))∧(Ob (on (bif IntKind.wrap IntKind.u64 (Int.tdiv a.Bits (70368744177664:Int)) != r8prefix a.Kind then true else Int.tmod a.Bits (70368744177664:Int)== (0:Int)))∧(cond (bif bif IntKind.wrap IntKind.u64 (Int.tdiv a.Bits (70368744177664:Int)) != r8prefix a.Kind then true else Int.tmod a.Bits (70368744177664:Int)== (0:Int) then true else Int.tmod a.Bits (70368744177664:Int)== (70368744177663:Int)) (r8Check.L ((1:Int)) v) (r8Check.L ((0:Int)) v)))))))))))))))
theorem r8Check.nf_ok (a:Address) (v:Int): evFun (mkCx Tryz.prog S tab_r5Low 0) 4 24 [Address.av a] [] (fun r' H'=>Gives r' H' (r8Check.res v) (r8Check.news v))= r8Check.nf a v:=by kernel_rfl
theorem r8Check.key (a:Address) (v:Int) (hv:v=r8Check a): r8Check.nf a v:=by
 unfold r8Check at hv
 unfold r8Check.nf
 iterate 2 refine ⟨⟨o3_ok _⟩, ?_⟩
 refine ⟨⟨on_ok _⟩, ?_⟩
 revert hv;refine by_cond2 (fun hb hv=>?_) (fun hb hv=>?_)
 subst hv;exact ⟨rfl,rfl⟩
 revert hv;refine by_cond2 (fun hb hv=>?_) (fun hb hv=>?_)
 subst hv;exact ⟨rfl,rfl⟩
 revert hv;refine by_cond2 (fun hb hv=>?_) (fun hb hv=>?_)
 subst hv;exact ⟨rfl,rfl⟩
 refine ⟨⟨?_⟩, ?_⟩;rotate_left
 revert hv;refine by_cond2 (fun hb hv=>?_) (fun hb hv=>?_)
 refine ⟨⟨?_⟩, ?_⟩;rotate_left
 refine ⟨⟨?_⟩, ?_⟩;rotate_left
 refine ⟨⟨o3_ok _⟩, ?_⟩
 refine ⟨⟨on_ok _⟩, ?_⟩
 iterate 2 refine ⟨⟨o3_ok _⟩, ?_⟩
 refine ⟨⟨on_ok _⟩, ?_⟩
 revert hv;refine by_cond2 (fun hb hv=>?_) (fun hb hv=>?_)
 subst hv;exact ⟨rfl,rfl⟩
 subst hv;exact ⟨rfl,rfl⟩
 refine ⟨⟨?_⟩, ?_⟩;rotate_left
 refine ⟨⟨o3_ok _⟩, ?_⟩
 refine ⟨⟨on_ok _⟩, ?_⟩
 iterate 2 refine ⟨⟨o3_ok _⟩, ?_⟩
 refine ⟨⟨on_ok _⟩, ?_⟩
 revert hv;refine by_cond2 (fun hb hv=>?_) (fun hb hv=>?_)
 subst hv;exact ⟨rfl,rfl⟩
 subst hv;exact ⟨rfl,rfl⟩
 all_goals ((try clear hv);(try clear q1 q2);(try clear hk);(first | omega | ((try simp only [decide_eq_true_eq,decide_eq_false_iff_not,Bool.not_eq_true,Bool.not_eq_false,Bool.and_eq_true,Bool.or_eq_true,Bool.not_not,cond_and,cond_or,List.length_append,List.length_cons,List.length_nil] at *);(first | done | ((first | omega | (intros;(try simp only [Bool.not_not,cond_and,cond_or,Bool.and_eq_true,decide_eq_true_eq] at *);(exact band_nn rfl _ _))| (intros;(try simp only [Bool.not_not,cond_and,cond_or,Bool.and_eq_true,decide_eq_true_eq] at *);(exact (wu64s _).2.1))| (intros;(try simp only [Bool.not_not,cond_and,cond_or,Bool.and_eq_true,decide_eq_true_eq] at *);(simp only [Bool.or_eq_false_iff,Bool.and_eq_false_iff,decide_eq_false_iff_not,decide_eq_true_eq,bne_iff_ne,beq_iff_eq,bne_eq_false_iff_eq,beq_eq_false_iff_ne,ne_eq,true_and] at *;omega))| (intros;(try simp only [Bool.not_not,cond_and,cond_or,Bool.and_eq_true,decide_eq_true_eq] at *);(simp only [List.length_drop,List.length_take,List.length_append,List.length_cons,List.length_nil] at *;omega))| (intros;omega)| (intros;simp only [Bool.not_not,cond_and,cond_or,Bool.and_eq_true,decide_eq_true_eq] at *;omega)| (intros;simp_all [Bool.not_not];done)))))))
def r8Check.ct:Ct El:=ctOf r8Check.dec (fun _=>[]) (fun x=>r8Check.res (r8Check x)) (fun x=>r8Check.news (r8Check x))
theorem r8Check.ok:CtOk (mkCx Tryz.prog S [] 0) 24 r8Check.ct:=ct_mk (C:=(mkCx Tryz.prog S tab_r5Low 0)) (mkCx_ok sigOk mixed tab_r5Low_ok 0) r8Check.dec_ok (fun x=>rfl) 4 (fun x _=>(r8Check.nf_ok x _).mpr (r8Check.key x _ rfl))
def tab_r8Check:List (FuncId×Ct El):= (24,r8Check.ct):: tab_r5Round
theorem tab_r8Check_ok:TabOk Tryz.prog S tab_r8Check:=⟨r8Check.ok,by kernel_rfl,tab_r5Round_ok⟩
end Go.Aw.W
