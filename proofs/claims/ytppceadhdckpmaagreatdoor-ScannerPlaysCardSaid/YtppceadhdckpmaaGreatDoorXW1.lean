/- Contracts of the seat (printed by ct.py). -/
import Derived.Test.YtppceadhdckpmaaGreatDoorXW0
set_option linter.unusedVariables false
set_option linter.unusedSimpArgs false
set_option maxRecDepth 20000
set_option maxHeartbeats 1000000
namespace Go.Aw.W
open Go Go.Aw Go.Proofs
attribute [local irreducible] evCode evFun evOps evDs evOne ctxK loopK loopB subC bodyC headS okH roundK
def sized.res (r:Bool): AV El:=.v (.bool (r))
def sized.news (r:Bool): List (AObj El):= []
def sized.L (e v:Bool): Prop:=sized.res e=sized.res v∧sized.news e=sized.news v
def sized (n:Int): Bool:=bif decide ((1:Int)≤n) then decide (n≤(8:Int)) else false
def sized.dec (cs:List (AV El)): Option (Int):= popI .i64 cs fun a0 c0=>popE c0 a0
def sized.enc (x:Int): List (AV El):= [.v (.int .i64 x)]
theorem sized.dec_ok : ∀cs x,sized.dec cs=some x→Imp (S:=S) cs (sized.enc x):= by
 intro cs x h
 unfold sized.dec at h
 obtain ⟨a0,c0,rfl,h0⟩:= popI_some (S:=S) h
 obtain ⟨rfl,rfl⟩:= popE_some (S:=S) h0
 exact (.cons (.refl _))
def sized.nf (n:Int) (v:Bool): Prop:=Ob (o3 (decide ((1:Int)≤n)))∧(Ob (o2 (decide ((1:Int)≤n)))∧(sized.L (bif decide ((1:Int)≤n) then decide (n≤(8:Int)) else false) v))
theorem sized.nf_ok (n:Int) (v:Bool): evFun (mkCx Tryz.prog S tab0 0) 4 93 [.v (.int .i64 n)] [] (fun r' H'=>Gives r' H' (sized.res v) (sized.news v))= sized.nf n v:=by kernel_rfl
theorem sized.key (n:Int) (v:Bool) (hv:v=sized n): sized.nf n v:=by
 unfold sized at hv
 unfold sized.nf
 refine ⟨⟨o3_ok _⟩, ?_⟩
 refine ⟨⟨o2_ok _⟩, ?_⟩
 subst hv;exact ⟨rfl,rfl⟩
def sized.ct:Ct El:=ctOf sized.dec (fun _=>[]) (fun x=>sized.res (sized x)) (fun x=>sized.news (sized x))
theorem sized.ok:CtOk (mkCx Tryz.prog S [] 0) 93 sized.ct:=ct_mk (C:=(mkCx Tryz.prog S tab0 0)) (mkCx_ok sigOk mixed tab0_ok 0) sized.dec_ok (fun x=>rfl) 4 (fun x _=>(sized.nf_ok x _).mpr (sized.key x _ rfl))
def tab_sized:List (FuncId×Ct El):= (93,sized.ct):: tab0
theorem tab_sized_ok:TabOk Tryz.prog S tab_sized:=⟨sized.ok,by kernel_rfl,tab0_ok⟩
def sLow.res (r:Int): AV El:=.v (.int .u64 (r))
def sLow.news (r:Int): List (AObj El):= []
def sLow.L (e v:Int): Prop:=sLow.res e=sLow.res v∧sLow.news e=sLow.news v
def sLow (n:Int) (bits:Int): Int:=cond (decide (bits≤(0:Int))) ((0:Int)) (cond (decide ((64:Int)≤bits)) (n) (bandK IntKind.u64 n (IntKind.wrap IntKind.u64 (shlK IntKind.u64 (1:Int) bits - (1:Int)))))
def sLow.dec (cs:List (AV El)): Option (Int×Int):= popI .u64 cs fun a0 c0=>popI .i64 c0 fun a1 c1=>popE c1 (a0,a1)
def sLow.enc (x:Int×Int): List (AV El):= [.v (.int .u64 x.1), .v (.int .i64 x.2)]
theorem sLow.dec_ok : ∀cs x,sLow.dec cs=some x→Imp (S:=S) cs (sLow.enc x):= by
 intro cs x h
 unfold sLow.dec at h
 obtain ⟨a0,c0,rfl,h0⟩:= popI_some (S:=S) h
 obtain ⟨a1,c1,rfl,h1⟩:= popI_some (S:=S) h0
 obtain ⟨rfl,rfl⟩:= popE_some (S:=S) h1
 exact (.cons (.cons (.refl _)))
def sLow.nf (n:Int) (bits:Int) (v:Int): Prop:=cond (decide (bits≤(0:Int))) (sLow.L ((0:Int)) v) (cond (decide ((64:Int)≤bits)) (sLow.L (n) v) (Ob ((0:Int)≤bits)∧(sLow.L (bandK IntKind.u64 n (IntKind.wrap IntKind.u64 (shlK IntKind.u64 (1:Int) bits - (1:Int)))) v)))
theorem sLow.nf_ok (n:Int) (bits:Int) (v:Int): evFun (mkCx Tryz.prog S tab0 0) 4 97 [.v (.int .u64 n), .v (.int .i64 bits)] [] (fun r' H'=>Gives r' H' (sLow.res v) (sLow.news v))= sLow.nf n bits v:=by kernel_rfl
theorem sLow.key (n:Int) (bits:Int) (v:Int) (hv:v=sLow n bits): sLow.nf n bits v:=by
 unfold sLow at hv
 unfold sLow.nf
 revert hv;refine by_cond2 (fun hb hv=>?_) (fun hb hv=>?_)
 ·subst hv;exact ⟨rfl,rfl⟩
 ·revert hv;refine by_cond2 (fun hb hv=>?_) (fun hb hv=>?_)
  ·subst hv;exact ⟨rfl,rfl⟩
  ·refine ⟨⟨by (try clear hv);(try clear q1 q2);(try clear hk);(first | omega | ((try simp only [decide_eq_true_eq,decide_eq_false_iff_not,Bool.not_eq_true,Bool.not_eq_false,Bool.and_eq_true,Bool.or_eq_true,Bool.not_not,cond_and,cond_or,List.length_append,List.length_cons,List.length_nil] at *);(first | done | ((first | omega | (intros;(try simp only [Bool.not_not,cond_and,cond_or,Bool.and_eq_true,decide_eq_true_eq] at *);(exact band_nn rfl _ _))| (intros;(try simp only [Bool.not_not,cond_and,cond_or,Bool.and_eq_true,decide_eq_true_eq] at *);(exact (wu64s _).2.1))| (intros;(try simp only [Bool.not_not,cond_and,cond_or,Bool.and_eq_true,decide_eq_true_eq] at *);(simp only [Bool.or_eq_false_iff,Bool.and_eq_false_iff,decide_eq_false_iff_not,decide_eq_true_eq,bne_iff_ne,beq_iff_eq,bne_eq_false_iff_eq,beq_eq_false_iff_ne,ne_eq,true_and] at *;omega))| (intros;(try simp only [Bool.not_not,cond_and,cond_or,Bool.and_eq_true,decide_eq_true_eq] at *);(simp only [List.length_drop,List.length_take,List.length_append,List.length_cons,List.length_nil] at *;omega))| (intros;omega)| (intros;simp only [Bool.not_not,cond_and,cond_or,Bool.and_eq_true,decide_eq_true_eq] at *;omega)| (intros;simp_all [Bool.not_not];done))))))⟩, ?_⟩
   subst hv;exact ⟨rfl,rfl⟩
def sLow.ct:Ct El:=ctOf sLow.dec (fun _=>[]) (fun x=>sLow.res (sLow x.1 x.2)) (fun x=>sLow.news (sLow x.1 x.2))
theorem sLow.ok:CtOk (mkCx Tryz.prog S [] 0) 97 sLow.ct:=ct_mk (C:=(mkCx Tryz.prog S tab0 0)) (mkCx_ok sigOk mixed tab0_ok 0) sLow.dec_ok (fun x=>rfl) 4 (fun x _=>(sLow.nf_ok x.1 x.2 _).mpr (sLow.key x.1 x.2 _ rfl))
def tab_sLow:List (FuncId×Ct El):= (97,sLow.ct):: tab_sized
theorem tab_sLow_ok:TabOk Tryz.prog S tab_sLow:=⟨sLow.ok,by kernel_rfl,tab_sized_ok⟩
def rotl64.res (r:Int): AV El:=.v (.int .u64 (r))
def rotl64.news (r:Int): List (AObj El):= []
def rotl64.L (e v:Int): Prop:=rotl64.res e=rotl64.res v∧rotl64.news e=rotl64.news v
def rotl64 (p0:Int) (k:Int): Int:=borK IntKind.u64 (shlK IntKind.u64 p0 (bandK IntKind.u64 (IntKind.wrap IntKind.u64 k) (63:Int))) (shrK IntKind.u64 p0 (IntKind.wrap IntKind.u64 ((64:Int) - bandK IntKind.u64 (IntKind.wrap IntKind.u64 k) (63:Int))))
def rotl64.dec (cs:List (AV El)): Option (Int×Int):= popI .u64 cs fun a0 c0=>popI .i64 c0 fun a1 c1=>popE c1 (a0,a1)
def rotl64.enc (x:Int×Int): List (AV El):= [.v (.int .u64 x.1), .v (.int .i64 x.2)]
theorem rotl64.dec_ok : ∀cs x,rotl64.dec cs=some x→Imp (S:=S) cs (rotl64.enc x):= by
 intro cs x h
 unfold rotl64.dec at h
 obtain ⟨a0,c0,rfl,h0⟩:= popI_some (S:=S) h
 obtain ⟨a1,c1,rfl,h1⟩:= popI_some (S:=S) h0
 obtain ⟨rfl,rfl⟩:= popE_some (S:=S) h1
 exact (.cons (.cons (.refl _)))
def rotl64.nf (p0:Int) (k:Int) (v:Int): Prop:=Ob ((0:Int)≤bandK IntKind.u64 (IntKind.wrap IntKind.u64 k) (63:Int))∧(Ob ((0:Int)≤IntKind.wrap IntKind.u64 ((64:Int) - bandK IntKind.u64 (IntKind.wrap IntKind.u64 k) (63:Int)))∧(rotl64.L (borK IntKind.u64 (shlK IntKind.u64 p0 (bandK IntKind.u64 (IntKind.wrap IntKind.u64 k) (63:Int))) (shrK IntKind.u64 p0 (IntKind.wrap IntKind.u64 ((64:Int) - bandK IntKind.u64 (IntKind.wrap IntKind.u64 k) (63:Int))))) v))
theorem rotl64.nf_ok (p0:Int) (k:Int) (v:Int): evFun (mkCx Tryz.prog S tab0 0) 4 98 [.v (.int .u64 p0), .v (.int .i64 k)] [] (fun r' H'=>Gives r' H' (rotl64.res v) (rotl64.news v))= rotl64.nf p0 k v:=by kernel_rfl
theorem rotl64.key (p0:Int) (k:Int) (v:Int) (hv:v=rotl64 p0 k): rotl64.nf p0 k v:=by
 unfold rotl64 at hv
 unfold rotl64.nf
 refine ⟨⟨by (try clear hv);(try clear q1 q2);(try clear hk);(first | omega | ((try simp only [decide_eq_true_eq,decide_eq_false_iff_not,Bool.not_eq_true,Bool.not_eq_false,Bool.and_eq_true,Bool.or_eq_true,Bool.not_not,cond_and,cond_or,List.length_append,List.length_cons,List.length_nil] at *);(first | done | (have:=wu64s k;(first | omega | (intros;(try simp only [Bool.not_not,cond_and,cond_or,Bool.and_eq_true,decide_eq_true_eq] at *);(exact band_nn rfl _ _))| (intros;(try simp only [Bool.not_not,cond_and,cond_or,Bool.and_eq_true,decide_eq_true_eq] at *);(exact (wu64s _).2.1))| (intros;(try simp only [Bool.not_not,cond_and,cond_or,Bool.and_eq_true,decide_eq_true_eq] at *);(simp only [Bool.or_eq_false_iff,Bool.and_eq_false_iff,decide_eq_false_iff_not,decide_eq_true_eq,bne_iff_ne,beq_iff_eq,bne_eq_false_iff_eq,beq_eq_false_iff_ne,ne_eq,true_and] at *;omega))| (intros;(try simp only [Bool.not_not,cond_and,cond_or,Bool.and_eq_true,decide_eq_true_eq] at *);(simp only [List.length_drop,List.length_take,List.length_append,List.length_cons,List.length_nil] at *;omega))| (intros;omega)| (intros;simp only [Bool.not_not,cond_and,cond_or,Bool.and_eq_true,decide_eq_true_eq] at *;omega)| (intros;simp_all [Bool.not_not];done))))))⟩, ?_⟩
 refine ⟨⟨by (try clear hv);(try clear q1 q2);(try clear hk);(first | omega | ((try simp only [decide_eq_true_eq,decide_eq_false_iff_not,Bool.not_eq_true,Bool.not_eq_false,Bool.and_eq_true,Bool.or_eq_true,Bool.not_not,cond_and,cond_or,List.length_append,List.length_cons,List.length_nil] at *);(first | done | (have:=wu64s ((64:Int) - bandK IntKind.u64 (IntKind.wrap IntKind.u64 k) (63:Int));have:=wu64s k;(first | omega | (intros;(try simp only [Bool.not_not,cond_and,cond_or,Bool.and_eq_true,decide_eq_true_eq] at *);(exact band_nn rfl _ _))| (intros;(try simp only [Bool.not_not,cond_and,cond_or,Bool.and_eq_true,decide_eq_true_eq] at *);(exact (wu64s _).2.1))| (intros;(try simp only [Bool.not_not,cond_and,cond_or,Bool.and_eq_true,decide_eq_true_eq] at *);(simp only [Bool.or_eq_false_iff,Bool.and_eq_false_iff,decide_eq_false_iff_not,decide_eq_true_eq,bne_iff_ne,beq_iff_eq,bne_eq_false_iff_eq,beq_eq_false_iff_ne,ne_eq,true_and] at *;omega))| (intros;(try simp only [Bool.not_not,cond_and,cond_or,Bool.and_eq_true,decide_eq_true_eq] at *);(simp only [List.length_drop,List.length_take,List.length_append,List.length_cons,List.length_nil] at *;omega))| (intros;omega)| (intros;simp only [Bool.not_not,cond_and,cond_or,Bool.and_eq_true,decide_eq_true_eq] at *;omega)| (intros;simp_all [Bool.not_not];done))))))⟩, ?_⟩
 subst hv;exact ⟨rfl,rfl⟩
def rotl64.ct:Ct El:=ctOf rotl64.dec (fun _=>[]) (fun x=>rotl64.res (rotl64 x.1 x.2)) (fun x=>rotl64.news (rotl64 x.1 x.2))
theorem rotl64.ok:CtOk (mkCx Tryz.prog S [] 0) 98 rotl64.ct:=ct_mk (C:=(mkCx Tryz.prog S tab0 0)) (mkCx_ok sigOk mixed tab0_ok 0) rotl64.dec_ok (fun x=>rfl) 4 (fun x _=>(rotl64.nf_ok x.1 x.2 _).mpr (rotl64.key x.1 x.2 _ rfl))
def tab_rotl64:List (FuncId×Ct El):= (98,rotl64.ct):: tab_sLow
theorem tab_rotl64_ok:TabOk Tryz.prog S tab_rotl64:=⟨rotl64.ok,by kernel_rfl,tab_sLow_ok⟩
def rotl32.res (r:Int): AV El:=.v (.int .u32 (r))
def rotl32.news (r:Int): List (AObj El):= []
def rotl32.L (e v:Int): Prop:=rotl32.res e=rotl32.res v∧rotl32.news e=rotl32.news v
def rotl32 (p0:Int) (k:Int): Int:=borK IntKind.u32 (shlK IntKind.u32 p0 (bandK IntKind.u64 (IntKind.wrap IntKind.u64 k) (31:Int))) (shrK IntKind.u32 p0 (IntKind.wrap IntKind.u64 ((32:Int) - bandK IntKind.u64 (IntKind.wrap IntKind.u64 k) (31:Int))))
def rotl32.dec (cs:List (AV El)): Option (Int×Int):= popI .u32 cs fun a0 c0=>popI .i64 c0 fun a1 c1=>popE c1 (a0,a1)
def rotl32.enc (x:Int×Int): List (AV El):= [.v (.int .u32 x.1), .v (.int .i64 x.2)]
theorem rotl32.dec_ok : ∀cs x,rotl32.dec cs=some x→Imp (S:=S) cs (rotl32.enc x):= by
 intro cs x h
 unfold rotl32.dec at h
 obtain ⟨a0,c0,rfl,h0⟩:= popI_some (S:=S) h
 obtain ⟨a1,c1,rfl,h1⟩:= popI_some (S:=S) h0
 obtain ⟨rfl,rfl⟩:= popE_some (S:=S) h1
 exact (.cons (.cons (.refl _)))
def rotl32.nf (p0:Int) (k:Int) (v:Int): Prop:=Ob ((0:Int)≤bandK IntKind.u64 (IntKind.wrap IntKind.u64 k) (31:Int))∧(Ob ((0:Int)≤IntKind.wrap IntKind.u64 ((32:Int) - bandK IntKind.u64 (IntKind.wrap IntKind.u64 k) (31:Int)))∧(rotl32.L (borK IntKind.u32 (shlK IntKind.u32 p0 (bandK IntKind.u64 (IntKind.wrap IntKind.u64 k) (31:Int))) (shrK IntKind.u32 p0 (IntKind.wrap IntKind.u64 ((32:Int) - bandK IntKind.u64 (IntKind.wrap IntKind.u64 k) (31:Int))))) v))
theorem rotl32.nf_ok (p0:Int) (k:Int) (v:Int): evFun (mkCx Tryz.prog S tab0 0) 4 99 [.v (.int .u32 p0), .v (.int .i64 k)] [] (fun r' H'=>Gives r' H' (rotl32.res v) (rotl32.news v))= rotl32.nf p0 k v:=by kernel_rfl
theorem rotl32.key (p0:Int) (k:Int) (v:Int) (hv:v=rotl32 p0 k): rotl32.nf p0 k v:=by
 unfold rotl32 at hv
 unfold rotl32.nf
 refine ⟨⟨by (try clear hv);(try clear q1 q2);(try clear hk);(first | omega | ((try simp only [decide_eq_true_eq,decide_eq_false_iff_not,Bool.not_eq_true,Bool.not_eq_false,Bool.and_eq_true,Bool.or_eq_true,Bool.not_not,cond_and,cond_or,List.length_append,List.length_cons,List.length_nil] at *);(first | done | (have:=wu64s k;(first | omega | (intros;(try simp only [Bool.not_not,cond_and,cond_or,Bool.and_eq_true,decide_eq_true_eq] at *);(exact band_nn rfl _ _))| (intros;(try simp only [Bool.not_not,cond_and,cond_or,Bool.and_eq_true,decide_eq_true_eq] at *);(exact (wu64s _).2.1))| (intros;(try simp only [Bool.not_not,cond_and,cond_or,Bool.and_eq_true,decide_eq_true_eq] at *);(simp only [Bool.or_eq_false_iff,Bool.and_eq_false_iff,decide_eq_false_iff_not,decide_eq_true_eq,bne_iff_ne,beq_iff_eq,bne_eq_false_iff_eq,beq_eq_false_iff_ne,ne_eq,true_and] at *;omega))| (intros;(try simp only [Bool.not_not,cond_and,cond_or,Bool.and_eq_true,decide_eq_true_eq] at *);(simp only [List.length_drop,List.length_take,List.length_append,List.length_cons,List.length_nil] at *;omega))| (intros;omega)| (intros;simp only [Bool.not_not,cond_and,cond_or,Bool.and_eq_true,decide_eq_true_eq] at *;omega)| (intros;simp_all [Bool.not_not];done))))))⟩, ?_⟩
 refine ⟨⟨by (try clear hv);(try clear q1 q2);(try clear hk);(first | omega | ((try simp only [decide_eq_true_eq,decide_eq_false_iff_not,Bool.not_eq_true,Bool.not_eq_false,Bool.and_eq_true,Bool.or_eq_true,Bool.not_not,cond_and,cond_or,List.length_append,List.length_cons,List.length_nil] at *);(first | done | (have:=wu64s ((32:Int) - bandK IntKind.u64 (IntKind.wrap IntKind.u64 k) (31:Int));have:=wu64s k;(first | omega | (intros;(try simp only [Bool.not_not,cond_and,cond_or,Bool.and_eq_true,decide_eq_true_eq] at *);(exact band_nn rfl _ _))| (intros;(try simp only [Bool.not_not,cond_and,cond_or,Bool.and_eq_true,decide_eq_true_eq] at *);(exact (wu64s _).2.1))| (intros;(try simp only [Bool.not_not,cond_and,cond_or,Bool.and_eq_true,decide_eq_true_eq] at *);(simp only [Bool.or_eq_false_iff,Bool.and_eq_false_iff,decide_eq_false_iff_not,decide_eq_true_eq,bne_iff_ne,beq_iff_eq,bne_eq_false_iff_eq,beq_eq_false_iff_ne,ne_eq,true_and] at *;omega))| (intros;(try simp only [Bool.not_not,cond_and,cond_or,Bool.and_eq_true,decide_eq_true_eq] at *);(simp only [List.length_drop,List.length_take,List.length_append,List.length_cons,List.length_nil] at *;omega))| (intros;omega)| (intros;simp only [Bool.not_not,cond_and,cond_or,Bool.and_eq_true,decide_eq_true_eq] at *;omega)| (intros;simp_all [Bool.not_not];done))))))⟩, ?_⟩
 subst hv;exact ⟨rfl,rfl⟩
def rotl32.ct:Ct El:=ctOf rotl32.dec (fun _=>[]) (fun x=>rotl32.res (rotl32 x.1 x.2)) (fun x=>rotl32.news (rotl32 x.1 x.2))
theorem rotl32.ok:CtOk (mkCx Tryz.prog S [] 0) 99 rotl32.ct:=ct_mk (C:=(mkCx Tryz.prog S tab0 0)) (mkCx_ok sigOk mixed tab0_ok 0) rotl32.dec_ok (fun x=>rfl) 4 (fun x _=>(rotl32.nf_ok x.1 x.2 _).mpr (rotl32.key x.1 x.2 _ rfl))
def tab_rotl32:List (FuncId×Ct El):= (99,rotl32.ct):: tab_rotl64
theorem tab_rotl32_ok:TabOk Tryz.prog S tab_rotl32:=⟨rotl32.ok,by kernel_rfl,tab_rotl64_ok⟩
def aMask.res (r:Int): AV El:=.v (.int .u64 (r))
def aMask.news (r:Int): List (AObj El):= []
def aMask.L (e v:Int): Prop:=aMask.res e=aMask.res v∧aMask.news e=aMask.news v
def aMask (bits:Int): Int:=IntKind.wrap IntKind.u64 (shlK IntKind.u64 (1:Int) bits - (1:Int))
def aMask.dec (cs:List (AV El)): Option (Int):= popI .i64 cs fun a0 c0=>popE c0 a0
def aMask.enc (x:Int): List (AV El):= [.v (.int .i64 x)]
theorem aMask.dec_ok : ∀cs x,aMask.dec cs=some x→Imp (S:=S) cs (aMask.enc x):= by
 intro cs x h
 unfold aMask.dec at h
 obtain ⟨a0,c0,rfl,h0⟩:= popI_some (S:=S) h
 obtain ⟨rfl,rfl⟩:= popE_some (S:=S) h0
 exact (.cons (.refl _))
def aMask.nf (bits:Int) (v:Int): Prop:=Ob ((0:Int)≤bits)∧(aMask.L (IntKind.wrap IntKind.u64 (shlK IntKind.u64 (1:Int) bits - (1:Int))) v)
theorem aMask.nf_ok (bits:Int) (v:Int): evFun (mkCx Tryz.prog S tab0 0) 4 42 [.v (.int .i64 bits)] [] (fun r' H'=>Gives r' H' (aMask.res v) (aMask.news v))= aMask.nf bits v:=by kernel_rfl
theorem aMask.key (bits:Int) (hp:0≤bits) (v:Int) (hv:v=aMask bits): aMask.nf bits v:=by
 unfold aMask at hv
 unfold aMask.nf
 refine ⟨⟨by (try clear hv);(try clear q1 q2);(try clear hk);(first | omega | ((try simp only [decide_eq_true_eq,decide_eq_false_iff_not,Bool.not_eq_true,Bool.not_eq_false,Bool.and_eq_true,Bool.or_eq_true,Bool.not_not,cond_and,cond_or,List.length_append,List.length_cons,List.length_nil] at *);(first | done | ((first | omega | (intros;(try simp only [Bool.not_not,cond_and,cond_or,Bool.and_eq_true,decide_eq_true_eq] at *);(exact band_nn rfl _ _))| (intros;(try simp only [Bool.not_not,cond_and,cond_or,Bool.and_eq_true,decide_eq_true_eq] at *);(exact (wu64s _).2.1))| (intros;(try simp only [Bool.not_not,cond_and,cond_or,Bool.and_eq_true,decide_eq_true_eq] at *);(simp only [Bool.or_eq_false_iff,Bool.and_eq_false_iff,decide_eq_false_iff_not,decide_eq_true_eq,bne_iff_ne,beq_iff_eq,bne_eq_false_iff_eq,beq_eq_false_iff_ne,ne_eq,true_and] at *;omega))| (intros;(try simp only [Bool.not_not,cond_and,cond_or,Bool.and_eq_true,decide_eq_true_eq] at *);(simp only [List.length_drop,List.length_take,List.length_append,List.length_cons,List.length_nil] at *;omega))| (intros;omega)| (intros;simp only [Bool.not_not,cond_and,cond_or,Bool.and_eq_true,decide_eq_true_eq] at *;omega)| (intros;simp_all [Bool.not_not];done))))))⟩, ?_⟩
 subst hv;exact ⟨rfl,rfl⟩
def aMask.ct:Ct El:=ctOf aMask.dec (fun x=>[0≤x]) (fun x=>aMask.res (aMask x)) (fun x=>aMask.news (aMask x))
theorem aMask.ok:CtOk (mkCx Tryz.prog S [] 0) 42 aMask.ct:=ct_mk (C:=(mkCx Tryz.prog S tab0 0)) (mkCx_ok sigOk mixed tab0_ok 0) aMask.dec_ok (fun x=>rfl) 4 (fun x hp=>(aMask.nf_ok x _).mpr (aMask.key x (hp _ (List.mem_singleton.2 rfl)) _ rfl))
def tab_aMask:List (FuncId×Ct El):= (42,aMask.ct):: tab_rotl32
theorem tab_aMask_ok:TabOk Tryz.prog S tab_aMask:=⟨aMask.ok,by kernel_rfl,tab_rotl32_ok⟩
def r5Turn.res (r:Int): AV El:=.v (.int .u32 (r))
def r5Turn.news (r:Int): List (AObj El):= []
def r5Turn.L (e v:Int): Prop:=r5Turn.res e=r5Turn.res v∧r5Turn.news e=r5Turn.news v
def r5Turn (p0:Int) (n:Int): Int:=borK IntKind.u32 (shlK IntKind.u32 p0 n) (shrK IntKind.u32 p0 (IntKind.wrap IntKind.i64 ((32:Int) - n)))
def r5Turn.dec (cs:List (AV El)): Option (Int×Int):= popI .u32 cs fun a0 c0=>popI .i64 c0 fun a1 c1=>popE c1 (a0,a1)
def r5Turn.enc (x:Int×Int): List (AV El):= [.v (.int .u32 x.1), .v (.int .i64 x.2)]
theorem r5Turn.dec_ok : ∀cs x,r5Turn.dec cs=some x→Imp (S:=S) cs (r5Turn.enc x):= by
 intro cs x h
 unfold r5Turn.dec at h
 obtain ⟨a0,c0,rfl,h0⟩:= popI_some (S:=S) h
 obtain ⟨a1,c1,rfl,h1⟩:= popI_some (S:=S) h0
 obtain ⟨rfl,rfl⟩:= popE_some (S:=S) h1
 exact (.cons (.cons (.refl _)))
def r5Turn.nf (p0:Int) (n:Int) (v:Int): Prop:=Ob ((0:Int)≤n)∧(Ob ((0:Int)≤IntKind.wrap IntKind.i64 ((32:Int) - n))∧(r5Turn.L (borK IntKind.u32 (shlK IntKind.u32 p0 n) (shrK IntKind.u32 p0 (IntKind.wrap IntKind.i64 ((32:Int) - n)))) v))
theorem r5Turn.nf_ok (p0:Int) (n:Int) (v:Int): evFun (mkCx Tryz.prog S tab0 0) 4 101 [.v (.int .u32 p0), .v (.int .i64 n)] [] (fun r' H'=>Gives r' H' (r5Turn.res v) (r5Turn.news v))= r5Turn.nf p0 n v:=by kernel_rfl
theorem r5Turn.key (p0:Int) (n:Int) (hp:0≤n∧n≤32) (v:Int) (hv:v=r5Turn p0 n): r5Turn.nf p0 n v:=by
 unfold r5Turn at hv
 unfold r5Turn.nf
 refine ⟨⟨by (try clear hv);(try clear q1 q2);(try clear hk);(first | omega | ((try simp only [decide_eq_true_eq,decide_eq_false_iff_not,Bool.not_eq_true,Bool.not_eq_false,Bool.and_eq_true,Bool.or_eq_true,Bool.not_not,cond_and,cond_or,List.length_append,List.length_cons,List.length_nil] at *);(first | done | ((first | omega | (intros;(try simp only [Bool.not_not,cond_and,cond_or,Bool.and_eq_true,decide_eq_true_eq] at *);(exact band_nn rfl _ _))| (intros;(try simp only [Bool.not_not,cond_and,cond_or,Bool.and_eq_true,decide_eq_true_eq] at *);(exact (wu64s _).2.1))| (intros;(try simp only [Bool.not_not,cond_and,cond_or,Bool.and_eq_true,decide_eq_true_eq] at *);(simp only [Bool.or_eq_false_iff,Bool.and_eq_false_iff,decide_eq_false_iff_not,decide_eq_true_eq,bne_iff_ne,beq_iff_eq,bne_eq_false_iff_eq,beq_eq_false_iff_ne,ne_eq,true_and] at *;omega))| (intros;(try simp only [Bool.not_not,cond_and,cond_or,Bool.and_eq_true,decide_eq_true_eq] at *);(simp only [List.length_drop,List.length_take,List.length_append,List.length_cons,List.length_nil] at *;omega))| (intros;omega)| (intros;simp only [Bool.not_not,cond_and,cond_or,Bool.and_eq_true,decide_eq_true_eq] at *;omega)| (intros;simp_all [Bool.not_not];done))))))⟩, ?_⟩
 refine ⟨⟨by (try clear hv);(try clear q1 q2);(try clear hk);(first | omega | ((try simp only [decide_eq_true_eq,decide_eq_false_iff_not,Bool.not_eq_true,Bool.not_eq_false,Bool.and_eq_true,Bool.or_eq_true,Bool.not_not,cond_and,cond_or,List.length_append,List.length_cons,List.length_nil] at *);(first | done | (have:=wi64s ((32:Int) - n);(first | omega | (intros;(try simp only [Bool.not_not,cond_and,cond_or,Bool.and_eq_true,decide_eq_true_eq] at *);(exact band_nn rfl _ _))| (intros;(try simp only [Bool.not_not,cond_and,cond_or,Bool.and_eq_true,decide_eq_true_eq] at *);(exact (wu64s _).2.1))| (intros;(try simp only [Bool.not_not,cond_and,cond_or,Bool.and_eq_true,decide_eq_true_eq] at *);(simp only [Bool.or_eq_false_iff,Bool.and_eq_false_iff,decide_eq_false_iff_not,decide_eq_true_eq,bne_iff_ne,beq_iff_eq,bne_eq_false_iff_eq,beq_eq_false_iff_ne,ne_eq,true_and] at *;omega))| (intros;(try simp only [Bool.not_not,cond_and,cond_or,Bool.and_eq_true,decide_eq_true_eq] at *);(simp only [List.length_drop,List.length_take,List.length_append,List.length_cons,List.length_nil] at *;omega))| (intros;omega)| (intros;simp only [Bool.not_not,cond_and,cond_or,Bool.and_eq_true,decide_eq_true_eq] at *;omega)| (intros;simp_all [Bool.not_not];done))))))⟩, ?_⟩
 subst hv;exact ⟨rfl,rfl⟩
def r5Turn.ct:Ct El:=ctOf r5Turn.dec (fun x=>[0≤x.2∧x.2≤32]) (fun x=>r5Turn.res (r5Turn x.1 x.2)) (fun x=>r5Turn.news (r5Turn x.1 x.2))
theorem r5Turn.ok:CtOk (mkCx Tryz.prog S [] 0) 101 r5Turn.ct:=ct_mk (C:=(mkCx Tryz.prog S tab0 0)) (mkCx_ok sigOk mixed tab0_ok 0) r5Turn.dec_ok (fun x=>rfl) 4 (fun x hp=>(r5Turn.nf_ok x.1 x.2 _).mpr (r5Turn.key x.1 x.2 (hp _ (List.mem_singleton.2 rfl)) _ rfl))
def tab_r5Turn:List (FuncId×Ct El):= (101,r5Turn.ct):: tab_aMask
theorem tab_r5Turn_ok:TabOk Tryz.prog S tab_r5Turn:=⟨r5Turn.ok,by kernel_rfl,tab_aMask_ok⟩
def r8prefix.res (r:Int): AV El:=.v (.int .u64 (r))
def r8prefix.news (r:Int): List (AObj El):= []
def r8prefix.L (e v:Int): Prop:=r8prefix.res e=r8prefix.res v∧r8prefix.news e=r8prefix.news v
def r8prefix (kind:Int): Int:=cond (kind==(2:Int)) ((3:Int)) (cond (kind==(3:Int)) ((1:Int)) ((0:Int)))
def r8prefix.dec (cs:List (AV El)): Option (Int):= popI .i64 cs fun a0 c0=>popE c0 a0
def r8prefix.enc (x:Int): List (AV El):= [.v (.int .i64 x)]
theorem r8prefix.dec_ok : ∀cs x,r8prefix.dec cs=some x→Imp (S:=S) cs (r8prefix.enc x):= by
 intro cs x h
 unfold r8prefix.dec at h
 obtain ⟨a0,c0,rfl,h0⟩:= popI_some (S:=S) h
 obtain ⟨rfl,rfl⟩:= popE_some (S:=S) h0
 exact (.cons (.refl _))
def r8prefix.nf (kind:Int) (v:Int): Prop:=cond (kind==(2:Int)) (r8prefix.L ((3:Int)) v) (cond (kind==(3:Int)) (r8prefix.L ((1:Int)) v) (r8prefix.L ((0:Int)) v))
theorem r8prefix.nf_ok (kind:Int) (v:Int): evFun (mkCx Tryz.prog S tab0 0) 4 45 [.v (.int .i64 kind)] [] (fun r' H'=>Gives r' H' (r8prefix.res v) (r8prefix.news v))= r8prefix.nf kind v:=by kernel_rfl
theorem r8prefix.key (kind:Int) (v:Int) (hv:v=r8prefix kind): r8prefix.nf kind v:=by
 unfold r8prefix at hv
 unfold r8prefix.nf
 revert hv;refine by_cond2 (fun hb hv=>?_) (fun hb hv=>?_)
 ·subst hv;exact ⟨rfl,rfl⟩
 ·revert hv;refine by_cond2 (fun hb hv=>?_) (fun hb hv=>?_)
  ·subst hv;exact ⟨rfl,rfl⟩
  ·subst hv;exact ⟨rfl,rfl⟩
def r8prefix.ct:Ct El:=ctOf r8prefix.dec (fun _=>[]) (fun x=>r8prefix.res (r8prefix x)) (fun x=>r8prefix.news (r8prefix x))
theorem r8prefix.ok:CtOk (mkCx Tryz.prog S [] 0) 45 r8prefix.ct:=ct_mk (C:=(mkCx Tryz.prog S tab0 0)) (mkCx_ok sigOk mixed tab0_ok 0) r8prefix.dec_ok (fun x=>rfl) 4 (fun x _=>(r8prefix.nf_ok x _).mpr (r8prefix.key x _ rfl))
def tab_r8prefix:List (FuncId×Ct El):= (45,r8prefix.ct):: tab_r5Turn
theorem tab_r8prefix_ok:TabOk Tryz.prog S tab_r8prefix:=⟨r8prefix.ok,by kernel_rfl,tab_r5Turn_ok⟩
def r5Low.res (r:Int): AV El:=.v (.int .u32 (r))
def r5Low.news (r:Int): List (AObj El):= []
def r5Low.L (e v:Int): Prop:=r5Low.res e=r5Low.res v∧r5Low.news e=r5Low.news v
def r5Low (k:Int) (i:Int): Int:=cond (decide ((0:Int) < Int.tmod (IntKind.wrap IntKind.i64 (IntKind.wrap IntKind.i64 (Int.tmod i (64:Int)+ (64:Int))* (11:Int))) (64:Int))) (IntKind.wrap IntKind.u32 (Int.tmod (borK IntKind.u64 (shlK IntKind.u64 k (Int.tmod (IntKind.wrap IntKind.i64 (IntKind.wrap IntKind.i64 (Int.tmod i (64:Int)+ (64:Int))* (11:Int))) (64:Int))) (shrK IntKind.u64 k (IntKind.wrap IntKind.i64 ((64:Int) - Int.tmod (IntKind.wrap IntKind.i64 (IntKind.wrap IntKind.i64 (Int.tmod i (64:Int)+ (64:Int))* (11:Int))) (64:Int))))) (4294967296:Int))) (IntKind.wrap IntKind.u32 (Int.tmod k (4294967296:Int)))
def r5Low.dec (cs:List (AV El)): Option (Int×Int):= popI .u64 cs fun a0 c0=>popI .i64 c0 fun a1 c1=>popE c1 (a0,a1)
def r5Low.enc (x:Int×Int): List (AV El):= [.v (.int .u64 x.1), .v (.int .i64 x.2)]
theorem r5Low.dec_ok : ∀cs x,r5Low.dec cs=some x→Imp (S:=S) cs (r5Low.enc x):= by
 intro cs x h
 unfold r5Low.dec at h
 obtain ⟨a0,c0,rfl,h0⟩:= popI_some (S:=S) h
 obtain ⟨a1,c1,rfl,h1⟩:= popI_some (S:=S) h0
 obtain ⟨rfl,rfl⟩:= popE_some (S:=S) h1
 exact (.cons (.cons (.refl _)))
def r5Low.nf (k:Int) (i:Int) (v:Int): Prop:=Ob ((64:Int)≠(0:Int))∧(Ob ((64:Int)≠(0:Int))∧(cond (decide ((0:Int) < Int.tmod (IntKind.wrap IntKind.i64 (IntKind.wrap IntKind.i64 (Int.tmod i (64:Int)+ (64:Int))* (11:Int))) (64:Int))) (Ob ((0:Int)≤Int.tmod (IntKind.wrap IntKind.i64 (IntKind.wrap IntKind.i64 (Int.tmod i (64:Int)+ (64:Int))* (11:Int))) (64:Int))∧(Ob ((0:Int)≤IntKind.wrap IntKind.i64 ((64:Int) - Int.tmod (IntKind.wrap IntKind.i64 (IntKind.wrap IntKind.i64 (Int.tmod i (64:Int)+ (64:Int))* (11:Int))) (64:Int)))∧(Ob ((4294967296:Int)≠(0:Int))∧(r5Low.L (IntKind.wrap IntKind.u32 (Int.tmod (borK IntKind.u64 (shlK IntKind.u64 k (Int.tmod (IntKind.wrap IntKind.i64 (IntKind.wrap IntKind.i64 (Int.tmod i (64:Int)+ (64:Int))* (11:Int))) (64:Int))) (shrK IntKind.u64 k (IntKind.wrap IntKind.i64 ((64:Int) - Int.tmod (IntKind.wrap IntKind.i64 (IntKind.wrap IntKind.i64 (Int.tmod i (64:Int)+ (64:Int))* (11:Int))) (64:Int))))) (4294967296:Int))) v)))) (Ob ((4294967296:Int)≠(0:Int))∧(r5Low.L (IntKind.wrap IntKind.u32 (Int.tmod k (4294967296:Int))) v))))
theorem r5Low.nf_ok (k:Int) (i:Int) (v:Int): evFun (mkCx Tryz.prog S tab_r8prefix 0) 4 100 [.v (.int .u64 k), .v (.int .i64 i)] [] (fun r' H'=>Gives r' H' (r5Low.res v) (r5Low.news v))= r5Low.nf k i v:=by kernel_rfl
theorem r5Low.key (k:Int) (i:Int) (v:Int) (hv:v=r5Low k i): r5Low.nf k i v:=by
 unfold r5Low at hv
 unfold r5Low.nf
 refine ⟨⟨?_⟩, ?_⟩;rotate_left
 refine ⟨⟨?_⟩, ?_⟩;rotate_left
 revert hv;refine by_cond2 (fun hb hv=>?_) (fun hb hv=>?_)
 refine ⟨⟨?_⟩, ?_⟩;rotate_left
 refine ⟨⟨?_⟩, ?_⟩;rotate_left
 refine ⟨⟨?_⟩, ?_⟩;rotate_left
 subst hv;exact ⟨rfl,rfl⟩
 refine ⟨⟨?_⟩, ?_⟩;rotate_left
 subst hv;exact ⟨rfl,rfl⟩
 all_goals ((try clear hv);(try clear q1 q2);(try clear hk);(have h1:=tmod_b (IntKind.wrap IntKind.i64 (IntKind.wrap IntKind.i64 (Int.tmod i (64:Int)+ (64:Int))* (11:Int))) (show (0:Int) < 64 by omega);(try simp only [decide_eq_true_eq] at *);first | omega | decide | (rw [wi64 _ (by omega) (by omega)];omega)))
def r5Low.ct:Ct El:=ctOf r5Low.dec (fun _=>[]) (fun x=>r5Low.res (r5Low x.1 x.2)) (fun x=>r5Low.news (r5Low x.1 x.2))
theorem r5Low.ok:CtOk (mkCx Tryz.prog S [] 0) 100 r5Low.ct:=ct_mk (C:=(mkCx Tryz.prog S tab_r8prefix 0)) (mkCx_ok sigOk mixed tab_r8prefix_ok 0) r5Low.dec_ok (fun x=>rfl) 4 (fun x _=>(r5Low.nf_ok x.1 x.2 _).mpr (r5Low.key x.1 x.2 _ rfl))
def tab_r5Low:List (FuncId×Ct El):= (100,r5Low.ct):: tab_r8prefix
theorem tab_r5Low_ok:TabOk Tryz.prog S tab_r5Low:=⟨r5Low.ok,by kernel_rfl,tab_r8prefix_ok⟩
end Go.Aw.W
