/- Contracts of the seat (printed by ct.py). -/
import Derived.Test.YtppceadhdckpmaaDoorXW40
set_option linter.unusedVariables false
set_option linter.unusedSimpArgs false
set_option maxRecDepth 20000
set_option maxHeartbeats 1000000
namespace Go.Aw.W
open Go Go.Aw Go.Proofs
attribute [local irreducible] evCode evFun evOps evDs evOne ctxK loopK loopB subC bodyC headS okH roundK
def advOwn.res (r:Advertiser): AV El:=Advertiser.av (r)
def advOwn.news (r:Advertiser): List (AObj El):= []
def advOwn.L (e v:Advertiser): Prop:=advOwn.res e=advOwn.res v∧advOwn.news e=advOwn.news v
def advOwn (a:Advertiser): Advertiser:=(⟨⟨(a.Params.Kind),(a.Params.Interval),⟨(a.Params.Own.Kind),(a.Params.Own.Bits)⟩,⟨(a.Params.Target.Kind),(a.Params.Target.Bits)⟩,(cloneB a.Params.Data),(cloneB a.Params.Scan),(a.Params.Policy),(cloneA a.Params.Accept),(cloneI a.Params.Identities),(a.Params.Seed)⟩,(a.On),(a.Event),(a.Next)⟩: Advertiser)
def advOwn.dec (cs:List (AV El)): Option (Advertiser):= popA Advertiser.dec cs fun a0 c0=>popE c0 a0
def advOwn.enc (x:Advertiser): List (AV El):= [Advertiser.av x]
theorem advOwn.dec_ok : ∀cs x,advOwn.dec cs=some x→Imp (S:=S) cs (advOwn.enc x):= by
 intro cs x h
 unfold advOwn.dec at h
 obtain ⟨a0,c0,h0,k0⟩:= popA_some (S:=S) Advertiser.dec_ok h
 obtain ⟨rfl,rfl⟩:= popE_some (S:=S) h0
 exact (k0 _ (.refl _))
def advOwn.nf (a:Advertiser) (v:Advertiser): Prop:=Ob (List.length a.Params.Data≤(140737488355328:Nat))∧(Ob (List.length a.Params.Scan≤(140737488355328:Nat))∧(Ob (List.length a.Params.Accept≤(4611686018427:Nat))∧(Ob (List.length a.Params.Identities≤(4611686018427:Nat))∧(advOwn.L ((⟨⟨(a.Params.Kind),(a.Params.Interval),⟨(a.Params.Own.Kind),(a.Params.Own.Bits)⟩,⟨(a.Params.Target.Kind),(a.Params.Target.Bits)⟩,(cloneB a.Params.Data),(cloneB a.Params.Scan),(a.Params.Policy),(cloneA a.Params.Accept),(cloneI a.Params.Identities),(a.Params.Seed)⟩,(a.On),(a.Event),(a.Next)⟩: Advertiser)) v))))
theorem advOwn.nf_ok (a:Advertiser) (v:Advertiser): evFun (mkCxI Tryd.prog S tab_cloneI 0 false sum_fIdx) 4 50 [Advertiser.av a] [] (fun r' H'=>Gives r' H' (advOwn.res v) (advOwn.news v))= advOwn.nf a v:=by kernel_rfl
theorem advOwn.key (a:Advertiser) (hp:a.Params.Data.length≤140737488355328∧a.Params.Scan.length≤140737488355328∧a.Params.Accept.length≤4611686018427∧a.Params.Identities.length≤4611686018427) (v:Advertiser) (hv:v=advOwn a): advOwn.nf a v:=by
 unfold advOwn at hv
 unfold advOwn.nf
 refine ⟨⟨?_⟩, ?_⟩;rotate_left
 refine ⟨⟨?_⟩, ?_⟩;rotate_left
 refine ⟨⟨?_⟩, ?_⟩;rotate_left
 refine ⟨⟨?_⟩, ?_⟩;rotate_left
 subst hv;exact ⟨rfl,rfl⟩
 all_goals ((try clear hv);(try clear q1 q2);(try clear hk);(first | omega | ((try simp only [decide_eq_true_eq,decide_eq_false_iff_not,Bool.not_eq_true,Bool.not_eq_false,Bool.and_eq_true,Bool.or_eq_true,Bool.not_not,cond_and,cond_or,List.length_append,List.length_cons,List.length_nil] at *);(first | done | ((first | omega | (intros;(try simp only [Bool.not_not,cond_and,cond_or,Bool.and_eq_true,decide_eq_true_eq] at *);(exact ⟨by decide,by simp⟩))| (intros;(try simp only [Bool.not_not,cond_and,cond_or,Bool.and_eq_true,decide_eq_true_eq] at *);(exact band_nn rfl _ _))| (intros;(try simp only [Bool.not_not,cond_and,cond_or,Bool.and_eq_true,decide_eq_true_eq] at *);(exact (wu64s _).2.1))| (intros;(try simp only [Bool.not_not,cond_and,cond_or,Bool.and_eq_true,decide_eq_true_eq] at *);(simp only [Bool.or_eq_false_iff,Bool.and_eq_false_iff,decide_eq_false_iff_not,decide_eq_true_eq,bne_iff_ne,beq_iff_eq,bne_eq_false_iff_eq,beq_eq_false_iff_ne,ne_eq,true_and] at *;omega))| (intros;(try simp only [Bool.not_not,cond_and,cond_or,Bool.and_eq_true,decide_eq_true_eq] at *);(simp only [List.length_drop,List.length_take,List.length_append,List.length_cons,List.length_nil] at *;omega))| (intros;omega)| (intros;simp only [Bool.not_not,cond_and,cond_or,Bool.and_eq_true,decide_eq_true_eq] at *;omega)| (intros;simp_all [Bool.not_not];done)))))))
def advOwn.ct:Ct El:=ctOf advOwn.dec (fun x=>[x.Params.Data.length≤140737488355328∧x.Params.Scan.length≤140737488355328∧x.Params.Accept.length≤4611686018427∧x.Params.Identities.length≤4611686018427]) (fun x=>advOwn.res (advOwn x)) (fun x=>advOwn.news (advOwn x))
theorem advOwn.ok:CtOk (mkCx Tryd.prog S [] 0) 50 advOwn.ct:=ct_mk (C:=(mkCxI Tryd.prog S tab_cloneI 0 false sum_fIdx)) (mkCxI_ok sigOk mixed tab_cloneI_ok 0 false sum_fIdx_ok) advOwn.dec_ok (fun x=>rfl) 4 (fun x hp=>(advOwn.nf_ok x _).mpr (advOwn.key x (hp _ (List.mem_singleton.2 rfl)) _ rfl))
def tab_advOwn:List (FuncId×Ct El):= (50,advOwn.ct):: tab_cloneI
theorem tab_advOwn_ok:TabOk Tryd.prog S tab_advOwn:=⟨advOwn.ok,by kernel_rfl,tab_cloneI_ok⟩
def advPDU.res (r:AdvPDU): AV El:=AdvPDU.av (r)
def advPDU.news (r:AdvPDU): List (AObj El):= []
def advPDU.L (e v:AdvPDU): Prop:=advPDU.res e=advPDU.res v∧advPDU.news e=advPDU.news v
def advPDU (p:AdvParams): AdvPDU:=(⟨(p.Kind),⟨(p.Own.Kind),(p.Own.Bits)⟩,⟨(p.Target.Kind),(p.Target.Bits)⟩,(cloneB p.Data),⟨((0:Int)),((0:Int)),⟨((0:Int)),((0:Int)),((0:Int)),((0:Int)),((0:Int))⟩,((0:Int)),((0:Int)),((0:Int)),((0:Int))⟩⟩: AdvPDU)
def advPDU.dec (cs:List (AV El)): Option (AdvParams):= popA AdvParams.dec cs fun a0 c0=>popE c0 a0
def advPDU.enc (x:AdvParams): List (AV El):= [AdvParams.av x]
theorem advPDU.dec_ok : ∀cs x,advPDU.dec cs=some x→Imp (S:=S) cs (advPDU.enc x):= by
 intro cs x h
 unfold advPDU.dec at h
 obtain ⟨a0,c0,h0,k0⟩:= popA_some (S:=S) AdvParams.dec_ok h
 obtain ⟨rfl,rfl⟩:= popE_some (S:=S) h0
 exact (k0 _ (.refl _))
def advPDU.nf (p:AdvParams) (v:AdvPDU): Prop:=Ob (List.length p.Data≤(140737488355328:Nat))∧(advPDU.L ((⟨(p.Kind),⟨(p.Own.Kind),(p.Own.Bits)⟩,⟨(p.Target.Kind),(p.Target.Bits)⟩,(cloneB p.Data),⟨((0:Int)),((0:Int)),⟨((0:Int)),((0:Int)),((0:Int)),((0:Int)),((0:Int))⟩,((0:Int)),((0:Int)),((0:Int)),((0:Int))⟩⟩: AdvPDU)) v)
theorem advPDU.nf_ok (p:AdvParams) (v:AdvPDU): evFun (mkCxI Tryd.prog S tab_cloneI 0 false sum_fIdx) 4 60 [AdvParams.av p] [] (fun r' H'=>Gives r' H' (advPDU.res v) (advPDU.news v))= advPDU.nf p v:=by kernel_rfl
theorem advPDU.key (p:AdvParams) (hp:p.Data.length≤140737488355328∧p.Scan.length≤140737488355328∧p.Accept.length≤4611686018427∧p.Identities.length≤4611686018427) (v:AdvPDU) (hv:v=advPDU p): advPDU.nf p v:=by
 unfold advPDU at hv
 unfold advPDU.nf
 refine ⟨⟨by (try clear hv);(try clear q1 q2);(try clear hk);(first | omega | ((try simp only [decide_eq_true_eq,decide_eq_false_iff_not,Bool.not_eq_true,Bool.not_eq_false,Bool.and_eq_true,Bool.or_eq_true,Bool.not_not,cond_and,cond_or,List.length_append,List.length_cons,List.length_nil] at *);(first | done | ((first | omega | (intros;(try simp only [Bool.not_not,cond_and,cond_or,Bool.and_eq_true,decide_eq_true_eq] at *);(exact ⟨by decide,by simp⟩))| (intros;(try simp only [Bool.not_not,cond_and,cond_or,Bool.and_eq_true,decide_eq_true_eq] at *);(exact band_nn rfl _ _))| (intros;(try simp only [Bool.not_not,cond_and,cond_or,Bool.and_eq_true,decide_eq_true_eq] at *);(exact (wu64s _).2.1))| (intros;(try simp only [Bool.not_not,cond_and,cond_or,Bool.and_eq_true,decide_eq_true_eq] at *);(simp only [Bool.or_eq_false_iff,Bool.and_eq_false_iff,decide_eq_false_iff_not,decide_eq_true_eq,bne_iff_ne,beq_iff_eq,bne_eq_false_iff_eq,beq_eq_false_iff_ne,ne_eq,true_and] at *;omega))| (intros;(try simp only [Bool.not_not,cond_and,cond_or,Bool.and_eq_true,decide_eq_true_eq] at *);(simp only [List.length_drop,List.length_take,List.length_append,List.length_cons,List.length_nil] at *;omega))| (intros;omega)| (intros;simp only [Bool.not_not,cond_and,cond_or,Bool.and_eq_true,decide_eq_true_eq] at *;omega)| (intros;simp_all [Bool.not_not];done))))))⟩, ?_⟩
 subst hv;exact ⟨rfl,rfl⟩
def advPDU.ct:Ct El:=ctOf advPDU.dec (fun x=>[x.Data.length≤140737488355328∧x.Scan.length≤140737488355328∧x.Accept.length≤4611686018427∧x.Identities.length≤4611686018427]) (fun x=>advPDU.res (advPDU x)) (fun x=>advPDU.news (advPDU x))
theorem advPDU.ok:CtOk (mkCx Tryd.prog S [] 0) 60 advPDU.ct:=ct_mk (C:=(mkCxI Tryd.prog S tab_cloneI 0 false sum_fIdx)) (mkCxI_ok sigOk mixed tab_cloneI_ok 0 false sum_fIdx_ok) advPDU.dec_ok (fun x=>rfl) 4 (fun x hp=>(advPDU.nf_ok x _).mpr (advPDU.key x (hp _ (List.mem_singleton.2 rfl)) _ rfl))
def tab_advPDU:List (FuncId×Ct El):= (60,advPDU.ct):: tab_advOwn
theorem tab_advPDU_ok:TabOk Tryd.prog S tab_advPDU:=⟨advPDU.ok,by kernel_rfl,tab_advOwn_ok⟩
def advScan.res (r:AdvPDU): AV El:=AdvPDU.av (r)
def advScan.news (r:AdvPDU): List (AObj El):= []
def advScan.L (e v:AdvPDU): Prop:=advScan.res e=advScan.res v∧advScan.news e=advScan.news v
def advScan (p:AdvParams): AdvPDU:=(⟨((4:Int)),⟨(p.Own.Kind),(p.Own.Bits)⟩,⟨((0:Int)),((0:Int))⟩,(cloneB p.Scan),⟨((0:Int)),((0:Int)),⟨((0:Int)),((0:Int)),((0:Int)),((0:Int)),((0:Int))⟩,((0:Int)),((0:Int)),((0:Int)),((0:Int))⟩⟩: AdvPDU)
def advScan.dec (cs:List (AV El)): Option (AdvParams):= popA AdvParams.dec cs fun a0 c0=>popE c0 a0
def advScan.enc (x:AdvParams): List (AV El):= [AdvParams.av x]
theorem advScan.dec_ok : ∀cs x,advScan.dec cs=some x→Imp (S:=S) cs (advScan.enc x):= by
 intro cs x h
 unfold advScan.dec at h
 obtain ⟨a0,c0,h0,k0⟩:= popA_some (S:=S) AdvParams.dec_ok h
 obtain ⟨rfl,rfl⟩:= popE_some (S:=S) h0
 exact (k0 _ (.refl _))
def advScan.nf (p:AdvParams) (v:AdvPDU): Prop:=Ob (List.length p.Scan≤(140737488355328:Nat))∧(advScan.L ((⟨((4:Int)),⟨(p.Own.Kind),(p.Own.Bits)⟩,⟨((0:Int)),((0:Int))⟩,(cloneB p.Scan),⟨((0:Int)),((0:Int)),⟨((0:Int)),((0:Int)),((0:Int)),((0:Int)),((0:Int))⟩,((0:Int)),((0:Int)),((0:Int)),((0:Int))⟩⟩: AdvPDU)) v)
theorem advScan.nf_ok (p:AdvParams) (v:AdvPDU): evFun (mkCxI Tryd.prog S tab_cloneI 0 false sum_fIdx) 4 64 [AdvParams.av p] [] (fun r' H'=>Gives r' H' (advScan.res v) (advScan.news v))= advScan.nf p v:=by kernel_rfl
theorem advScan.key (p:AdvParams) (hp:p.Data.length≤140737488355328∧p.Scan.length≤140737488355328∧p.Accept.length≤4611686018427∧p.Identities.length≤4611686018427) (v:AdvPDU) (hv:v=advScan p): advScan.nf p v:=by
 unfold advScan at hv
 unfold advScan.nf
 refine ⟨⟨by (try clear hv);(try clear q1 q2);(try clear hk);(first | omega | ((try simp only [decide_eq_true_eq,decide_eq_false_iff_not,Bool.not_eq_true,Bool.not_eq_false,Bool.and_eq_true,Bool.or_eq_true,Bool.not_not,cond_and,cond_or,List.length_append,List.length_cons,List.length_nil] at *);(first | done | ((first | omega | (intros;(try simp only [Bool.not_not,cond_and,cond_or,Bool.and_eq_true,decide_eq_true_eq] at *);(exact ⟨by decide,by simp⟩))| (intros;(try simp only [Bool.not_not,cond_and,cond_or,Bool.and_eq_true,decide_eq_true_eq] at *);(exact band_nn rfl _ _))| (intros;(try simp only [Bool.not_not,cond_and,cond_or,Bool.and_eq_true,decide_eq_true_eq] at *);(exact (wu64s _).2.1))| (intros;(try simp only [Bool.not_not,cond_and,cond_or,Bool.and_eq_true,decide_eq_true_eq] at *);(simp only [Bool.or_eq_false_iff,Bool.and_eq_false_iff,decide_eq_false_iff_not,decide_eq_true_eq,bne_iff_ne,beq_iff_eq,bne_eq_false_iff_eq,beq_eq_false_iff_ne,ne_eq,true_and] at *;omega))| (intros;(try simp only [Bool.not_not,cond_and,cond_or,Bool.and_eq_true,decide_eq_true_eq] at *);(simp only [List.length_drop,List.length_take,List.length_append,List.length_cons,List.length_nil] at *;omega))| (intros;omega)| (intros;simp only [Bool.not_not,cond_and,cond_or,Bool.and_eq_true,decide_eq_true_eq] at *;omega)| (intros;simp_all [Bool.not_not];done))))))⟩, ?_⟩
 subst hv;exact ⟨rfl,rfl⟩
def advScan.ct:Ct El:=ctOf advScan.dec (fun x=>[x.Data.length≤140737488355328∧x.Scan.length≤140737488355328∧x.Accept.length≤4611686018427∧x.Identities.length≤4611686018427]) (fun x=>advScan.res (advScan x)) (fun x=>advScan.news (advScan x))
theorem advScan.ok:CtOk (mkCx Tryd.prog S [] 0) 64 advScan.ct:=ct_mk (C:=(mkCxI Tryd.prog S tab_cloneI 0 false sum_fIdx)) (mkCxI_ok sigOk mixed tab_cloneI_ok 0 false sum_fIdx_ok) advScan.dec_ok (fun x=>rfl) 4 (fun x hp=>(advScan.nf_ok x _).mpr (advScan.key x (hp _ (List.mem_singleton.2 rfl)) _ rfl))
def tab_advScan:List (FuncId×Ct El):= (64,advScan.ct):: tab_advPDU
theorem tab_advScan_ok:TabOk Tryd.prog S tab_advScan:=⟨advScan.ok,by kernel_rfl,tab_advPDU_ok⟩
def advDelay.res (r:Int): AV El:=.v (.int .i64 (r))
def advDelay.news (r:Int): List (AObj El):= []
def advDelay.L (e v:Int): Prop:=advDelay.res e=advDelay.res v∧advDelay.news e=advDelay.news v
def advDelay (seed:Int) (event:Int): Int:=IntKind.wrap IntKind.i64 (Int.tmod (pDerive seed {data:=#[(100:UInt8),(101:UInt8),(108:UInt8),(97:UInt8),(121:UInt8)]: ByteArray} [IntKind.wrap IntKind.u64 event]) (10000:Int))
def advDelay.dec (cs:List (AV El)): Option (Int×Int):= popI .u64 cs fun a0 c0=>popI .i64 c0 fun a1 c1=>popE c1 (a0,a1)
def advDelay.enc (x:Int×Int): List (AV El):= [.v (.int .u64 x.1), .v (.int .i64 x.2)]
theorem advDelay.dec_ok : ∀cs x,advDelay.dec cs=some x→Imp (S:=S) cs (advDelay.enc x):= by
 intro cs x h
 unfold advDelay.dec at h
 obtain ⟨a0,c0,rfl,h0⟩:= popI_some (S:=S) h
 obtain ⟨a1,c1,rfl,h1⟩:= popI_some (S:=S) h0
 obtain ⟨rfl,rfl⟩:= popE_some (S:=S) h1
 exact (.cons (.cons (.refl _)))
def advDelay.nf (seed:Int) (event:Int) (v:Int): Prop:=Ob (List.length (bytesI {data:=#[(100:UInt8),(101:UInt8),(108:UInt8),(97:UInt8),(121:UInt8)]: ByteArray})≤(1099511627776:Nat)∧List.length [IntKind.wrap IntKind.u64 event]≤(1099511627776:Nat))∧(Ob ((10000:Int)≠(0:Int))∧(advDelay.L (IntKind.wrap IntKind.i64 (Int.tmod (pDerive seed {data:=#[(100:UInt8),(101:UInt8),(108:UInt8),(97:UInt8),(121:UInt8)]: ByteArray} [IntKind.wrap IntKind.u64 event]) (10000:Int))) v))
theorem advDelay.nf_ok (seed:Int) (event:Int) (v:Int): evFun (mkCxI Tryd.prog S tab_cloneI 0 false sum_fIdx) 4 20 [.v (.int .u64 seed), .v (.int .i64 event)] [] (fun r' H'=>Gives r' H' (advDelay.res v) (advDelay.news v))= advDelay.nf seed event v:=by kernel_rfl
theorem advDelay.key (seed:Int) (event:Int) (v:Int) (hv:v=advDelay seed event): advDelay.nf seed event v:=by
 unfold advDelay at hv
 unfold advDelay.nf
 refine ⟨⟨by (try clear hv);(try clear q1 q2);(try clear hk);(first | omega | ((try simp only [decide_eq_true_eq,decide_eq_false_iff_not,Bool.not_eq_true,Bool.not_eq_false,Bool.and_eq_true,Bool.or_eq_true,Bool.not_not,cond_and,cond_or,List.length_append,List.length_cons,List.length_nil] at *);(first | done | (have:=wu64s event;(first | omega | (intros;(try simp only [Bool.not_not,cond_and,cond_or,Bool.and_eq_true,decide_eq_true_eq] at *);(exact ⟨by decide,by simp⟩))| (intros;(try simp only [Bool.not_not,cond_and,cond_or,Bool.and_eq_true,decide_eq_true_eq] at *);(exact band_nn rfl _ _))| (intros;(try simp only [Bool.not_not,cond_and,cond_or,Bool.and_eq_true,decide_eq_true_eq] at *);(exact (wu64s _).2.1))| (intros;(try simp only [Bool.not_not,cond_and,cond_or,Bool.and_eq_true,decide_eq_true_eq] at *);(simp only [Bool.or_eq_false_iff,Bool.and_eq_false_iff,decide_eq_false_iff_not,decide_eq_true_eq,bne_iff_ne,beq_iff_eq,bne_eq_false_iff_eq,beq_eq_false_iff_ne,ne_eq,true_and] at *;omega))| (intros;(try simp only [Bool.not_not,cond_and,cond_or,Bool.and_eq_true,decide_eq_true_eq] at *);(simp only [List.length_drop,List.length_take,List.length_append,List.length_cons,List.length_nil] at *;omega))| (intros;omega)| (intros;simp only [Bool.not_not,cond_and,cond_or,Bool.and_eq_true,decide_eq_true_eq] at *;omega)| (intros;simp_all [Bool.not_not];done))))))⟩, ?_⟩
 refine ⟨⟨by (try clear hv);(try clear q1 q2);(try clear hk);(first | omega | ((try simp only [decide_eq_true_eq,decide_eq_false_iff_not,Bool.not_eq_true,Bool.not_eq_false,Bool.and_eq_true,Bool.or_eq_true,Bool.not_not,cond_and,cond_or,List.length_append,List.length_cons,List.length_nil] at *);(first | done | ((first | omega | (intros;(try simp only [Bool.not_not,cond_and,cond_or,Bool.and_eq_true,decide_eq_true_eq] at *);(exact ⟨by decide,by simp⟩))| (intros;(try simp only [Bool.not_not,cond_and,cond_or,Bool.and_eq_true,decide_eq_true_eq] at *);(exact band_nn rfl _ _))| (intros;(try simp only [Bool.not_not,cond_and,cond_or,Bool.and_eq_true,decide_eq_true_eq] at *);(exact (wu64s _).2.1))| (intros;(try simp only [Bool.not_not,cond_and,cond_or,Bool.and_eq_true,decide_eq_true_eq] at *);(simp only [Bool.or_eq_false_iff,Bool.and_eq_false_iff,decide_eq_false_iff_not,decide_eq_true_eq,bne_iff_ne,beq_iff_eq,bne_eq_false_iff_eq,beq_eq_false_iff_ne,ne_eq,true_and] at *;omega))| (intros;(try simp only [Bool.not_not,cond_and,cond_or,Bool.and_eq_true,decide_eq_true_eq] at *);(simp only [List.length_drop,List.length_take,List.length_append,List.length_cons,List.length_nil] at *;omega))| (intros;omega)| (intros;simp only [Bool.not_not,cond_and,cond_or,Bool.and_eq_true,decide_eq_true_eq] at *;omega)| (intros;simp_all [Bool.not_not];done))))))⟩, ?_⟩
 subst hv;exact ⟨rfl,rfl⟩
def advDelay.ct:Ct El:=ctOf advDelay.dec (fun _=>[]) (fun x=>advDelay.res (advDelay x.1 x.2)) (fun x=>advDelay.news (advDelay x.1 x.2))
theorem advDelay.ok:CtOk (mkCx Tryd.prog S [] 0) 20 advDelay.ct:=ct_mk (C:=(mkCxI Tryd.prog S tab_cloneI 0 false sum_fIdx)) (mkCxI_ok sigOk mixed tab_cloneI_ok 0 false sum_fIdx_ok) advDelay.dec_ok (fun x=>rfl) 4 (fun x _=>(advDelay.nf_ok x.1 x.2 _).mpr (advDelay.key x.1 x.2 _ rfl))
def tab_advDelay:List (FuncId×Ct El):= (20,advDelay.ct):: tab_advScan
theorem tab_advDelay_ok:TabOk Tryd.prog S tab_advDelay:=⟨advDelay.ok,by kernel_rfl,tab_advScan_ok⟩
end Go.Aw.W
