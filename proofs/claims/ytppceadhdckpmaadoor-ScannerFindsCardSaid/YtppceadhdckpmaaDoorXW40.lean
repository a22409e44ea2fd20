/- Contracts of the seat (printed by ct.py). -/
import Derived.Test.YtppceadhdckpmaaDoorXW26
set_option linter.unusedVariables false
set_option linter.unusedSimpArgs false
set_option maxRecDepth 20000
set_option maxHeartbeats 1000000
namespace Go.Aw.W
open Go Go.Aw Go.Proofs
attribute [local irreducible] evCode evFun evOps evDs evOne ctxK loopK loopB subC bodyC headS okH roundK
def advMoment.res (r:Int): AV El:=.v (.int .i64 (r))
def advMoment.news (r:Int): List (AObj El):= []
def advMoment.L (e v:Int): Prop:=advMoment.res e=advMoment.res v∧advMoment.news e=advMoment.news v
def advMoment (p0:Int): Int:=minI (maxI p0 (0:Int)) (4398046511104:Int)
def advMoment.dec (cs:List (AV El)): Option (Int):= popI .i64 cs fun a0 c0=>popE c0 a0
def advMoment.enc (x:Int): List (AV El):= [.v (.int .i64 x)]
theorem advMoment.dec_ok : ∀cs x,advMoment.dec cs=some x→Imp (S:=S) cs (advMoment.enc x):= by
 intro cs x h
 unfold advMoment.dec at h
 obtain ⟨a0,c0,rfl,h0⟩:= popI_some (S:=S) h
 obtain ⟨rfl,rfl⟩:= popE_some (S:=S) h0
 exact (.cons (.refl _))
def advMoment.nf (p0:Int) (v:Int): Prop:=advMoment.L (minI (maxI p0 (0:Int)) (4398046511104:Int)) v
theorem advMoment.nf_ok (p0:Int) (v:Int): evFun (mkCxI Tryd.prog S tab_scannerInitiates 0 false sum_fIdx) 4 51 [.v (.int .i64 p0)] [] (fun r' H'=>Gives r' H' (advMoment.res v) (advMoment.news v))= advMoment.nf p0 v:=by kernel_rfl
theorem advMoment.key (p0:Int) (v:Int) (hv:v=advMoment p0): advMoment.nf p0 v:=by
 unfold advMoment at hv
 unfold advMoment.nf
 subst hv;exact ⟨rfl,rfl⟩
def advMoment.ct:Ct El:=ctOf advMoment.dec (fun _=>[]) (fun x=>advMoment.res (advMoment x)) (fun x=>advMoment.news (advMoment x))
theorem advMoment.ok:CtOk (mkCx Tryd.prog S [] 0) 51 advMoment.ct:=ct_mk (C:=(mkCxI Tryd.prog S tab_scannerInitiates 0 false sum_fIdx)) (mkCxI_ok sigOk mixed tab_scannerInitiates_ok 0 false sum_fIdx_ok) advMoment.dec_ok (fun x=>rfl) 4 (fun x _=>(advMoment.nf_ok x _).mpr (advMoment.key x _ rfl))
def tab_advMoment:List (FuncId×Ct El):= (51,advMoment.ct):: tab_scannerInitiates
theorem tab_advMoment_ok:TabOk Tryd.prog S tab_advMoment:=⟨advMoment.ok,by kernel_rfl,tab_scannerInitiates_ok⟩
def cloneB.res (r:(List Int)): AV El:=.sl 5 (r:List (El 5)) false
def cloneB.news (r:(List Int)): List (AObj El):= []
def cloneB.L (e v:(List Int)): Prop:=cloneB.res e=cloneB.res v∧cloneB.news e=cloneB.news v
def cloneB (l:List Int): (List Int):= List.take (List.length (List.replicate (Int.toNat (↑(List.length l): Int)) (0:Int))) l ++ List.drop (List.length l) (List.replicate (Int.toNat (↑(List.length l): Int)) (0:Int))
def cloneB.dec (cs:List (AV El)): Option ((List Int)):= popS 5 cs fun a0 c0=>popE c0 a0
def cloneB.enc (x:(List Int)): List (AV El):= [.sl 5 (x:List (El 5)) false]
theorem cloneB.dec_ok : ∀cs x,cloneB.dec cs=some x→Imp (S:=S) cs (cloneB.enc x):= by
 intro cs x h
 unfold cloneB.dec at h
 obtain ⟨a0,c0,h0,k0⟩:= popS_some (S:=S) (t:=5) h
 obtain ⟨rfl,rfl⟩:= popE_some (S:=S) h0
 exact (k0 _ (.refl _))
def cloneB.nf (l:List Int) (v:(List Int)): Prop:=(List.length l≤(9223372036854775807:Nat))→(Ob ((0:Int)≤(↑(List.length l): Int)∧(↑(List.length l): Int)≤(↑(List.length l): Int)∧(↑(1:Nat): Int)* (↑(List.length l): Int)≤(281474976710656:Int)∧(↑(List.length l): Int)≤(9223372036854775807:Int))∧(cloneB.L (List.take (List.length (List.replicate (Int.toNat (↑(List.length l): Int)) (0:Int))) l ++ List.drop (List.length l) (List.replicate (Int.toNat (↑(List.length l): Int)) (0:Int))) v))
theorem cloneB.nf_ok (l:List Int) (v:(List Int)): evFun (mkCxI Tryd.prog S tab_scannerInitiates 0 false sum_fIdx) 4 83 [.sl 5 (l:List (El 5)) false] [] (fun r' H'=>Gives r' H' (cloneB.res v) (cloneB.news v))= cloneB.nf l v:=by kernel_rfl
theorem cloneB.key (l:List Int) (hp:l.length≤140737488355328) (v:(List Int)) (hv:v=cloneB l): cloneB.nf l v:=by
 unfold cloneB at hv
 unfold cloneB.nf
 intro hlen
 refine ⟨⟨by (try clear hv);(try clear q1 q2);(try clear hk);(first | omega | ((try simp only [decide_eq_true_eq,decide_eq_false_iff_not,Bool.not_eq_true,Bool.not_eq_false,Bool.and_eq_true,Bool.or_eq_true,Bool.not_not,cond_and,cond_or,List.length_append,List.length_cons,List.length_nil] at *);(first | done | ((first | omega | (intros;(try simp only [Bool.not_not,cond_and,cond_or,Bool.and_eq_true,decide_eq_true_eq] at *);(exact band_nn rfl _ _))| (intros;(try simp only [Bool.not_not,cond_and,cond_or,Bool.and_eq_true,decide_eq_true_eq] at *);(exact (wu64s _).2.1))| (intros;(try simp only [Bool.not_not,cond_and,cond_or,Bool.and_eq_true,decide_eq_true_eq] at *);(simp only [Bool.or_eq_false_iff,Bool.and_eq_false_iff,decide_eq_false_iff_not,decide_eq_true_eq,bne_iff_ne,beq_iff_eq,bne_eq_false_iff_eq,beq_eq_false_iff_ne,ne_eq,true_and] at *;omega))| (intros;(try simp only [Bool.not_not,cond_and,cond_or,Bool.and_eq_true,decide_eq_true_eq] at *);(simp only [List.length_drop,List.length_take,List.length_append,List.length_cons,List.length_nil] at *;omega))| (intros;omega)| (intros;simp only [Bool.not_not,cond_and,cond_or,Bool.and_eq_true,decide_eq_true_eq] at *;omega)| (intros;simp_all [Bool.not_not];done))))))⟩, ?_⟩
 subst hv;exact ⟨rfl,rfl⟩
def cloneB.ct:Ct El:=ctOf cloneB.dec (fun x=>[x.length≤140737488355328]) (fun x=>cloneB.res (cloneB x)) (fun x=>cloneB.news (cloneB x))
theorem cloneB.ok:CtOk (mkCx Tryd.prog S [] 0) 83 cloneB.ct:=ct_mk (C:=(mkCxI Tryd.prog S tab_scannerInitiates 0 false sum_fIdx)) (mkCxI_ok sigOk mixed tab_scannerInitiates_ok 0 false sum_fIdx_ok) cloneB.dec_ok (fun x=>rfl) 4 (fun x hp=>(cloneB.nf_ok x _).mpr (cloneB.key x (hp _ (List.mem_singleton.2 rfl)) _ rfl))
def tab_cloneB:List (FuncId×Ct El):= (83,cloneB.ct):: tab_advMoment
theorem tab_cloneB_ok:TabOk Tryd.prog S tab_cloneB:=⟨cloneB.ok,by kernel_rfl,tab_advMoment_ok⟩
def cloneA.res (r:(List Address)): AV El:=.sl 24 (r:List (El 24)) false
def cloneA.news (r:(List Address)): List (AObj El):= []
def cloneA.L (e v:(List Address)): Prop:=cloneA.res e=cloneA.res v∧cloneA.news e=cloneA.news v
def cloneA (l:List Address): (List Address):= List.take (List.length (List.replicate (Int.toNat (↑(List.length l): Int)) {Kind:=(0:Int),Bits:=(0:Int): Address})) l ++ List.drop (List.length l) (List.replicate (Int.toNat (↑(List.length l): Int)) {Kind:=(0:Int),Bits:=(0:Int): Address})
def cloneA.dec (cs:List (AV El)): Option ((List Address)):= popS 24 cs fun a0 c0=>popE c0 a0
def cloneA.enc (x:(List Address)): List (AV El):= [.sl 24 (x:List (El 24)) false]
theorem cloneA.dec_ok : ∀cs x,cloneA.dec cs=some x→Imp (S:=S) cs (cloneA.enc x):= by
 intro cs x h
 unfold cloneA.dec at h
 obtain ⟨a0,c0,h0,k0⟩:= popS_some (S:=S) (t:=24) h
 obtain ⟨rfl,rfl⟩:= popE_some (S:=S) h0
 exact (k0 _ (.refl _))
def cloneA.nf (l:List Address) (v:(List Address)): Prop:=(List.length l≤(9223372036854775807:Nat))→(Ob ((0:Int)≤(↑(List.length l): Int)∧(↑(List.length l): Int)≤(↑(List.length l): Int)∧(↑(16:Nat): Int)* (↑(List.length l): Int)≤(281474976710656:Int)∧(↑(List.length l): Int)≤(9223372036854775807:Int))∧(cloneA.L (List.take (List.length (List.replicate (Int.toNat (↑(List.length l): Int)) {Kind:=(0:Int),Bits:=(0:Int): Address})) l ++ List.drop (List.length l) (List.replicate (Int.toNat (↑(List.length l): Int)) {Kind:=(0:Int),Bits:=(0:Int): Address})) v))
theorem cloneA.nf_ok (l:List Address) (v:(List Address)): evFun (mkCxI Tryd.prog S tab_scannerInitiates 0 false sum_fIdx) 4 84 [.sl 24 (l:List (El 24)) false] [] (fun r' H'=>Gives r' H' (cloneA.res v) (cloneA.news v))= cloneA.nf l v:=by kernel_rfl
theorem cloneA.key (l:List Address) (hp:l.length≤4611686018427) (v:(List Address)) (hv:v=cloneA l): cloneA.nf l v:=by
 unfold cloneA at hv
 unfold cloneA.nf
 intro hlen
 refine ⟨⟨by (try clear hv);(try clear q1 q2);(try clear hk);(first | omega | ((try simp only [decide_eq_true_eq,decide_eq_false_iff_not,Bool.not_eq_true,Bool.not_eq_false,Bool.and_eq_true,Bool.or_eq_true,Bool.not_not,cond_and,cond_or,List.length_append,List.length_cons,List.length_nil] at *);(first | done | ((first | omega | (intros;(try simp only [Bool.not_not,cond_and,cond_or,Bool.and_eq_true,decide_eq_true_eq] at *);(exact band_nn rfl _ _))| (intros;(try simp only [Bool.not_not,cond_and,cond_or,Bool.and_eq_true,decide_eq_true_eq] at *);(exact (wu64s _).2.1))| (intros;(try simp only [Bool.not_not,cond_and,cond_or,Bool.and_eq_true,decide_eq_true_eq] at *);(simp only [Bool.or_eq_false_iff,Bool.and_eq_false_iff,decide_eq_false_iff_not,decide_eq_true_eq,bne_iff_ne,beq_iff_eq,bne_eq_false_iff_eq,beq_eq_false_iff_ne,ne_eq,true_and] at *;omega))| (intros;(try simp only [Bool.not_not,cond_and,cond_or,Bool.and_eq_true,decide_eq_true_eq] at *);(simp only [List.length_drop,List.length_take,List.length_append,List.length_cons,List.length_nil] at *;omega))| (intros;omega)| (intros;simp only [Bool.not_not,cond_and,cond_or,Bool.and_eq_true,decide_eq_true_eq] at *;omega)| (intros;simp_all [Bool.not_not];done))))))⟩, ?_⟩
 subst hv;exact ⟨rfl,rfl⟩
def cloneA.ct:Ct El:=ctOf cloneA.dec (fun x=>[x.length≤4611686018427]) (fun x=>cloneA.res (cloneA x)) (fun x=>cloneA.news (cloneA x))
theorem cloneA.ok:CtOk (mkCx Tryd.prog S [] 0) 84 cloneA.ct:=ct_mk (C:=(mkCxI Tryd.prog S tab_scannerInitiates 0 false sum_fIdx)) (mkCxI_ok sigOk mixed tab_scannerInitiates_ok 0 false sum_fIdx_ok) cloneA.dec_ok (fun x=>rfl) 4 (fun x hp=>(cloneA.nf_ok x _).mpr (cloneA.key x (hp _ (List.mem_singleton.2 rfl)) _ rfl))
def tab_cloneA:List (FuncId×Ct El):= (84,cloneA.ct):: tab_cloneB
theorem tab_cloneA_ok:TabOk Tryd.prog S tab_cloneA:=⟨cloneA.ok,by kernel_rfl,tab_cloneB_ok⟩
def cloneI.res (r:(List Identity)): AV El:=.sl 126 (r:List (El 126)) false
def cloneI.news (r:(List Identity)): List (AObj El):= []
def cloneI.L (e v:(List Identity)): Prop:=cloneI.res e=cloneI.res v∧cloneI.news e=cloneI.news v
def cloneI (l:List Identity): (List Identity):= List.take (List.length (List.replicate (Int.toNat (↑(List.length l): Int)) {Address:={Kind:=(0:Int),Bits:=(0:Int): Address},IRK:=(0:Int): Identity})) l ++ List.drop (List.length l) (List.replicate (Int.toNat (↑(List.length l): Int)) {Address:={Kind:=(0:Int),Bits:=(0:Int): Address},IRK:=(0:Int): Identity})
def cloneI.dec (cs:List (AV El)): Option ((List Identity)):= popS 126 cs fun a0 c0=>popE c0 a0
def cloneI.enc (x:(List Identity)): List (AV El):= [.sl 126 (x:List (El 126)) false]
theorem cloneI.dec_ok : ∀cs x,cloneI.dec cs=some x→Imp (S:=S) cs (cloneI.enc x):= by
 intro cs x h
 unfold cloneI.dec at h
 obtain ⟨a0,c0,h0,k0⟩:= popS_some (S:=S) (t:=126) h
 obtain ⟨rfl,rfl⟩:= popE_some (S:=S) h0
 exact (k0 _ (.refl _))
def cloneI.nf (l:List Identity) (v:(List Identity)): Prop:=(List.length l≤(9223372036854775807:Nat))→(Ob ((0:Int)≤(↑(List.length l): Int)∧(↑(List.length l): Int)≤(↑(List.length l): Int)∧(↑(24:Nat): Int)* (↑(List.length l): Int)≤(281474976710656:Int)∧(↑(List.length l): Int)≤(9223372036854775807:Int))∧(cloneI.L (List.take (List.length (List.replicate (Int.toNat (↑(List.length l): Int)) {Address:={Kind:=(0:Int),Bits:=(0:Int): Address},IRK:=(0:Int): Identity})) l ++ List.drop (List.length l) (List.replicate (Int.toNat (↑(List.length l): Int)) {Address:={Kind:=(0:Int),Bits:=(0:Int): Address},IRK:=(0:Int): Identity})) v))
theorem cloneI.nf_ok (l:List Identity) (v:(List Identity)): evFun (mkCxI Tryd.prog S tab_scannerInitiates 0 false sum_fIdx) 4 85 [.sl 126 (l:List (El 126)) false] [] (fun r' H'=>Gives r' H' (cloneI.res v) (cloneI.news v))= cloneI.nf l v:=by kernel_rfl
theorem cloneI.key (l:List Identity) (hp:l.length≤4611686018427) (v:(List Identity)) (hv:v=cloneI l): cloneI.nf l v:=by
 unfold cloneI at hv
 unfold cloneI.nf
 intro hlen
 refine ⟨⟨by (try clear hv);(try clear q1 q2);(try clear hk);(first | omega | ((try simp only [decide_eq_true_eq,decide_eq_false_iff_not,Bool.not_eq_true,Bool.not_eq_false,Bool.and_eq_true,Bool.or_eq_true,Bool.not_not,cond_and,cond_or,List.length_append,List.length_cons,List.length_nil] at *);(first | done | ((first | omega | (intros;(try simp only [Bool.not_not,cond_and,cond_or,Bool.and_eq_true,decide_eq_true_eq] at *);(exact band_nn rfl _ _))| (intros;(try simp only [Bool.not_not,cond_and,cond_or,Bool.and_eq_true,decide_eq_true_eq] at *);(exact (wu64s _).2.1))| (intros;(try simp only [Bool.not_not,cond_and,cond_or,Bool.and_eq_true,decide_eq_true_eq] at *);(simp only [Bool.or_eq_false_iff,Bool.and_eq_false_iff,decide_eq_false_iff_not,decide_eq_true_eq,bne_iff_ne,beq_iff_eq,bne_eq_false_iff_eq,beq_eq_false_iff_ne,ne_eq,true_and] at *;omega))| (intros;(try simp only [Bool.not_not,cond_and,cond_or,Bool.and_eq_true,decide_eq_true_eq] at *);(simp only [List.length_drop,List.length_take,List.length_append,List.length_cons,List.length_nil] at *;omega))| (intros;omega)| (intros;simp only [Bool.not_not,cond_and,cond_or,Bool.and_eq_true,decide_eq_true_eq] at *;omega)| (intros;simp_all [Bool.not_not];done))))))⟩, ?_⟩
 subst hv;exact ⟨rfl,rfl⟩
def cloneI.ct:Ct El:=ctOf cloneI.dec (fun x=>[x.length≤4611686018427]) (fun x=>cloneI.res (cloneI x)) (fun x=>cloneI.news (cloneI x))
theorem cloneI.ok:CtOk (mkCx Tryd.prog S [] 0) 85 cloneI.ct:=ct_mk (C:=(mkCxI Tryd.prog S tab_scannerInitiates 0 false sum_fIdx)) (mkCxI_ok sigOk mixed tab_scannerInitiates_ok 0 false sum_fIdx_ok) cloneI.dec_ok (fun x=>rfl) 4 (fun x hp=>(cloneI.nf_ok x _).mpr (cloneI.key x (hp _ (List.mem_singleton.2 rfl)) _ rfl))
def tab_cloneI:List (FuncId×Ct El):= (85,cloneI.ct):: tab_cloneA
theorem tab_cloneI_ok:TabOk Tryd.prog S tab_cloneI:=⟨cloneI.ok,by kernel_rfl,tab_cloneA_ok⟩
end Go.Aw.W
