/- Contracts of the seat (printed by ct.py). -/
import Derived.Test.YtppceadhdckpmaaGreatDoorXW18
set_option linter.unusedVariables false
set_option linter.unusedSimpArgs false
set_option maxRecDepth 20000
set_option maxHeartbeats 1000000
namespace Go.Aw.W
open Go Go.Aw Go.Proofs
attribute [local irreducible] evCode evFun evOps evDs evOne ctxK loopK loopB subC bodyC headS okH roundK
def clA.res (r:List Address): AV El:=.gs 0
def clA.news (r:List Address): List (AObj El):= [.row 26 (r:List (El 26))]
def clA (s:List Address): List Address:=s
def clA.dec (cs:List (AV El)): Option ((List Address)):= popS 26 cs fun a0 c0=>popE c0 a0
def clA.enc (x:(List Address)): List (AV El):= [.sl 26 (x:List (El 26)) false]
theorem clA.dec_ok : ∀cs x,clA.dec cs=some x→Imp (S:=S) cs (clA.enc x):= by
 intro cs x h
 unfold clA.dec at h
 obtain ⟨a0,c0,h0,k0⟩:= popS_some (S:=S) (t:=26) h
 obtain ⟨rfl,rfl⟩:= popE_some (S:=S) h0
 exact (k0 _ (.refl _))
theorem clA.nf_ok (s:List Address) (K:AV El→List (AObj El)→Prop): evFun (mkCxI Tryz.prog S tab_r20Has 0 false sum_fIdx) 4 43 [.sl 26 (s:List (El 26)) false] [] K=(∀z:Bool,(z=true→s=[])→cond (bif false then !z else z) (K (.v (.slice none 0 0)) []) (Ob (((0:Nat)+ List.length s)* (16:Nat)≤(140737488355328:Nat))∧(K (.gs 1) [.gone, .row 26 ([]++ s:List (El 26))]))):= by kernel_rfl
theorem clA.key (s:List Address) (hp:s.length*16≤140737488355328): evFun (mkCxI Tryz.prog S tab_r20Has 0 false sum_fIdx) 4 43 [.sl 26 (s:List (El 26)) false] [] (fun r' H'=>Gives r' H' (clA.res s) (clA.news s)):= by
 refine (clA.nf_ok s _).mpr ?_
 intro z hz
 cases z
 ·exact ⟨⟨by omega⟩,And.intro (by kernel_rfl) (by kernel_rfl)⟩
 ·have:=hz rfl
  subst this
  exact And.intro (by kernel_rfl) (by kernel_rfl)
def clA.ct:Ct El:=ctOf clA.dec (fun x=>[x.length*16≤140737488355328]) (fun x=>clA.res (clA x)) (fun x=>clA.news (clA x))
theorem clA.ok:CtOk (mkCx Tryz.prog S [] 0) 43 clA.ct:=ct_mk (C:=(mkCxI Tryz.prog S tab_r20Has 0 false sum_fIdx)) (mkCxI_ok sigOk mixed tab_r20Has_ok 0 false sum_fIdx_ok) clA.dec_ok (fun x=>rfl) 4 (fun x hp=>clA.key x (hp _ (List.mem_singleton.2 rfl)))
def tab_clA:List (FuncId×Ct El):= (43,clA.ct):: tab_r20Has
theorem tab_clA_ok:TabOk Tryz.prog S tab_clA:=⟨clA.ok,by kernel_rfl,tab_r20Has_ok⟩
def clI.res (r:List Identity): AV El:=.gs 0
def clI.news (r:List Identity): List (AObj El):= [.row 88 (r:List (El 88))]
def clI (s:List Identity): List Identity:=s
def clI.dec (cs:List (AV El)): Option ((List Identity)):= popS 88 cs fun a0 c0=>popE c0 a0
def clI.enc (x:(List Identity)): List (AV El):= [.sl 88 (x:List (El 88)) false]
theorem clI.dec_ok : ∀cs x,clI.dec cs=some x→Imp (S:=S) cs (clI.enc x):= by
 intro cs x h
 unfold clI.dec at h
 obtain ⟨a0,c0,h0,k0⟩:= popS_some (S:=S) (t:=88) h
 obtain ⟨rfl,rfl⟩:= popE_some (S:=S) h0
 exact (k0 _ (.refl _))
theorem clI.nf_ok (s:List Identity) (K:AV El→List (AObj El)→Prop): evFun (mkCxI Tryz.prog S tab_clA 0 false sum_fIdx) 4 44 [.sl 88 (s:List (El 88)) false] [] K=(∀z:Bool,(z=true→s=[])→cond (bif false then !z else z) (K (.v (.slice none 0 0)) []) (Ob (((0:Nat)+ List.length s)* (24:Nat)≤(140737488355328:Nat))∧(K (.gs 1) [.gone, .row 88 ([]++ s:List (El 88))]))):= by kernel_rfl
theorem clI.key (s:List Identity) (hp:s.length*24≤140737488355328): evFun (mkCxI Tryz.prog S tab_clA 0 false sum_fIdx) 4 44 [.sl 88 (s:List (El 88)) false] [] (fun r' H'=>Gives r' H' (clI.res s) (clI.news s)):= by
 refine (clI.nf_ok s _).mpr ?_
 intro z hz
 cases z
 ·exact ⟨⟨by omega⟩,And.intro (by kernel_rfl) (by kernel_rfl)⟩
 ·have:=hz rfl
  subst this
  exact And.intro (by kernel_rfl) (by kernel_rfl)
def clI.ct:Ct El:=ctOf clI.dec (fun x=>[x.length*24≤140737488355328]) (fun x=>clI.res (clI x)) (fun x=>clI.news (clI x))
theorem clI.ok:CtOk (mkCx Tryz.prog S [] 0) 44 clI.ct:=ct_mk (C:=(mkCxI Tryz.prog S tab_clA 0 false sum_fIdx)) (mkCxI_ok sigOk mixed tab_clA_ok 0 false sum_fIdx_ok) clI.dec_ok (fun x=>rfl) 4 (fun x hp=>clI.key x (hp _ (List.mem_singleton.2 rfl)))
def tab_clI:List (FuncId×Ct El):= (44,clI.ct):: tab_clA
theorem tab_clI_ok:TabOk Tryz.prog S tab_clI:=⟨clI.ok,by kernel_rfl,tab_clA_ok⟩
def clB.res (r:List Int): AV El:=.gs 0
def clB.news (r:List Int): List (AObj El):= [.row 5 (r:List (El 5))]
def clB (s:List Int): List Int:=s
def clB.dec (cs:List (AV El)): Option ((List Int)):= popS 5 cs fun a0 c0=>popE c0 a0
def clB.enc (x:(List Int)): List (AV El):= [.sl 5 (x:List (El 5)) false]
theorem clB.dec_ok : ∀cs x,clB.dec cs=some x→Imp (S:=S) cs (clB.enc x):= by
 intro cs x h
 unfold clB.dec at h
 obtain ⟨a0,c0,h0,k0⟩:= popS_some (S:=S) (t:=5) h
 obtain ⟨rfl,rfl⟩:= popE_some (S:=S) h0
 exact (k0 _ (.refl _))
theorem clB.nf_ok (s:List Int) (K:AV El→List (AObj El)→Prop): evFun (mkCxI Tryz.prog S tab_clI 0 false sum_fIdx) 4 50 [.sl 5 (s:List (El 5)) false] [] K=(∀z:Bool,(z=true→s=[])→cond (bif false then !z else z) (K (.v (.slice none 0 0)) []) (Ob (((0:Nat)+ List.length s)* (1:Nat)≤(140737488355328:Nat))∧(K (.gs 1) [.gone, .row 5 ([]++ s:List (El 5))]))):= by kernel_rfl
theorem clB.key (s:List Int) (hp:s.length*1≤140737488355328): evFun (mkCxI Tryz.prog S tab_clI 0 false sum_fIdx) 4 50 [.sl 5 (s:List (El 5)) false] [] (fun r' H'=>Gives r' H' (clB.res s) (clB.news s)):= by
 refine (clB.nf_ok s _).mpr ?_
 intro z hz
 cases z
 ·exact ⟨⟨by omega⟩,And.intro (by kernel_rfl) (by kernel_rfl)⟩
 ·have:=hz rfl
  subst this
  exact And.intro (by kernel_rfl) (by kernel_rfl)
def clB.ct:Ct El:=ctOf clB.dec (fun x=>[x.length*1≤140737488355328]) (fun x=>clB.res (clB x)) (fun x=>clB.news (clB x))
theorem clB.ok:CtOk (mkCx Tryz.prog S [] 0) 50 clB.ct:=ct_mk (C:=(mkCxI Tryz.prog S tab_clI 0 false sum_fIdx)) (mkCxI_ok sigOk mixed tab_clI_ok 0 false sum_fIdx_ok) clB.dec_ok (fun x=>rfl) 4 (fun x hp=>clB.key x (hp _ (List.mem_singleton.2 rfl)))
def tab_clB:List (FuncId×Ct El):= (50,clB.ct):: tab_clI
theorem tab_clB_ok:TabOk Tryz.prog S tab_clB:=⟨clB.ok,by kernel_rfl,tab_clI_ok⟩
def scMoment.res (r:Int): AV El:=.v (.int .i64 (r))
def scMoment.news (r:Int): List (AObj El):= []
def scMoment.L (e v:Int): Prop:=scMoment.res e=scMoment.res v∧scMoment.news e=scMoment.news v
def scMoment (p0:Int): Int:=minI (maxI p0 (0:Int)) (4398046511104:Int)
def scMoment.dec (cs:List (AV El)): Option (Int):= popI .i64 cs fun a0 c0=>popE c0 a0
def scMoment.enc (x:Int): List (AV El):= [.v (.int .i64 x)]
theorem scMoment.dec_ok : ∀cs x,scMoment.dec cs=some x→Imp (S:=S) cs (scMoment.enc x):= by
 intro cs x h
 unfold scMoment.dec at h
 obtain ⟨a0,c0,rfl,h0⟩:= popI_some (S:=S) h
 obtain ⟨rfl,rfl⟩:= popE_some (S:=S) h0
 exact (.cons (.refl _))
def scMoment.nf (p0:Int) (v:Int): Prop:=scMoment.L (minI (maxI p0 (0:Int)) (4398046511104:Int)) v
theorem scMoment.nf_ok (p0:Int) (v:Int): evFun (mkCxI Tryz.prog S tab_clB 0 false sum_fIdx) 4 23 [.v (.int .i64 p0)] [] (fun r' H'=>Gives r' H' (scMoment.res v) (scMoment.news v))= scMoment.nf p0 v:=by kernel_rfl
theorem scMoment.key (p0:Int) (v:Int) (hv:v=scMoment p0): scMoment.nf p0 v:=by
 unfold scMoment at hv
 unfold scMoment.nf
 subst hv;exact ⟨rfl,rfl⟩
def scMoment.ct:Ct El:=ctOf scMoment.dec (fun _=>[]) (fun x=>scMoment.res (scMoment x)) (fun x=>scMoment.news (scMoment x))
theorem scMoment.ok:CtOk (mkCx Tryz.prog S [] 0) 23 scMoment.ct:=ct_mk (C:=(mkCxI Tryz.prog S tab_clB 0 false sum_fIdx)) (mkCxI_ok sigOk mixed tab_clB_ok 0 false sum_fIdx_ok) scMoment.dec_ok (fun x=>rfl) 4 (fun x _=>(scMoment.nf_ok x _).mpr (scMoment.key x _ rfl))
def tab_scMoment:List (FuncId×Ct El):= (23,scMoment.ct):: tab_clB
theorem tab_scMoment_ok:TabOk Tryz.prog S tab_scMoment:=⟨scMoment.ok,by kernel_rfl,tab_clB_ok⟩
def r21Place.res (r:Int): AV El:=.v (.int .i64 (r))
def r21Place.news (r:Int): List (AObj El):= []
def r21Place.L (e v:Int): Prop:=r21Place.res e=r21Place.res v∧r21Place.news e=r21Place.news v
def r21Place (p0:Int): Int:=maxI (0:Int) (minI p0 (4398046511104:Int))
def r21Place.dec (cs:List (AV El)): Option (Int):= popI .i64 cs fun a0 c0=>popE c0 a0
def r21Place.enc (x:Int): List (AV El):= [.v (.int .i64 x)]
theorem r21Place.dec_ok : ∀cs x,r21Place.dec cs=some x→Imp (S:=S) cs (r21Place.enc x):= by
 intro cs x h
 unfold r21Place.dec at h
 obtain ⟨a0,c0,rfl,h0⟩:= popI_some (S:=S) h
 obtain ⟨rfl,rfl⟩:= popE_some (S:=S) h0
 exact (.cons (.refl _))
def r21Place.nf (p0:Int) (v:Int): Prop:=r21Place.L (maxI (0:Int) (minI p0 (4398046511104:Int))) v
theorem r21Place.nf_ok (p0:Int) (v:Int): evFun (mkCxI Tryz.prog S tab_clB 0 false sum_fIdx) 4 25 [.v (.int .i64 p0)] [] (fun r' H'=>Gives r' H' (r21Place.res v) (r21Place.news v))= r21Place.nf p0 v:=by kernel_rfl
theorem r21Place.key (p0:Int) (v:Int) (hv:v=r21Place p0): r21Place.nf p0 v:=by
 unfold r21Place at hv
 unfold r21Place.nf
 subst hv;exact ⟨rfl,rfl⟩
def r21Place.ct:Ct El:=ctOf r21Place.dec (fun _=>[]) (fun x=>r21Place.res (r21Place x)) (fun x=>r21Place.news (r21Place x))
theorem r21Place.ok:CtOk (mkCx Tryz.prog S [] 0) 25 r21Place.ct:=ct_mk (C:=(mkCxI Tryz.prog S tab_clB 0 false sum_fIdx)) (mkCxI_ok sigOk mixed tab_clB_ok 0 false sum_fIdx_ok) r21Place.dec_ok (fun x=>rfl) 4 (fun x _=>(r21Place.nf_ok x _).mpr (r21Place.key x _ rfl))
def tab_r21Place:List (FuncId×Ct El):= (25,r21Place.ct):: tab_scMoment
theorem tab_r21Place_ok:TabOk Tryz.prog S tab_r21Place:=⟨r21Place.ok,by kernel_rfl,tab_scMoment_ok⟩
def small22.res (r:Bool): AV El:=.v (.bool (r))
def small22.news (r:Bool): List (AObj El):= []
def small22.L (e v:Bool): Prop:=small22.res e=small22.res v∧small22.news e=small22.news v
def small22 (p:ScanParams): Bool:=bif decide ((↑(List.length p.Accept): Int)≤(100:Int)) then decide ((↑(List.length p.Identities): Int)≤(100:Int)) else false
def small22.dec (cs:List (AV El)): Option (ScanParams):= popA ScanParams.dec cs fun a0 c0=>popE c0 a0
def small22.enc (x:ScanParams): List (AV El):= [ScanParams.av x]
theorem small22.dec_ok : ∀cs x,small22.dec cs=some x→Imp (S:=S) cs (small22.enc x):= by
 intro cs x h
 unfold small22.dec at h
 obtain ⟨a0,c0,h0,k0⟩:= popA_some (S:=S) ScanParams.dec_ok h
 obtain ⟨rfl,rfl⟩:= popE_some (S:=S) h0
 exact (k0 _ (.refl _))
def small22.nf (p:ScanParams) (v:Bool): Prop:=(List.length p.Accept≤(9223372036854775807:Nat))→(Ob (o3 (decide ((↑(List.length p.Accept): Int)≤(100:Int))))∧(Ob (o3 (decide ((↑(List.length p.Accept): Int)≤(100:Int))))∧(Ob (o3 (decide ((↑(List.length p.Accept): Int)≤(100:Int))))∧(Ob (o2 (decide ((↑(List.length p.Accept): Int)≤(100:Int))))∧(small22.L (bif decide ((↑(List.length p.Accept): Int)≤(100:Int)) then decide ((↑(List.length p.Identities): Int)≤(100:Int)) else false) v)))))
theorem small22.nf_ok (p:ScanParams) (v:Bool): evFun (mkCxI Tryz.prog S tab_clB 0 false sum_fIdx) 4 5 [ScanParams.av p] [] (fun r' H'=>Gives r' H' (small22.res v) (small22.news v))= small22.nf p v:=by kernel_rfl
theorem small22.key (p:ScanParams) (v:Bool) (hv:v=small22 p): small22.nf p v:=by
 unfold small22 at hv
 unfold small22.nf
 intro hlen
 iterate 3 refine ⟨⟨o3_ok _⟩, ?_⟩
 refine ⟨⟨o2_ok _⟩, ?_⟩
 subst hv;exact ⟨rfl,rfl⟩
def small22.ct:Ct El:=ctOf small22.dec (fun _=>[]) (fun x=>small22.res (small22 x)) (fun x=>small22.news (small22 x))
theorem small22.ok:CtOk (mkCx Tryz.prog S [] 0) 5 small22.ct:=ct_mk (C:=(mkCxI Tryz.prog S tab_clB 0 false sum_fIdx)) (mkCxI_ok sigOk mixed tab_clB_ok 0 false sum_fIdx_ok) small22.dec_ok (fun x=>rfl) 4 (fun x _=>(small22.nf_ok x _).mpr (small22.key x _ rfl))
def tab_small22:List (FuncId×Ct El):= (5,small22.ct):: tab_r21Place
theorem tab_small22_ok:TabOk Tryz.prog S tab_small22:=⟨small22.ok,by kernel_rfl,tab_r21Place_ok⟩
def own22.res (r:ScanParams): AV El:=ScanParams.av (r)
def own22.news (r:ScanParams): List (AObj El):= []
def own22.L (e v:ScanParams): Prop:=own22.res e=own22.res v∧own22.news e=own22.news v
def own22 (p:ScanParams): ScanParams:=(⟨(p.Interval),(p.Window),(p.Active),(p.Policy),([]++ p.Accept),([]++ p.Identities),⟨(p.Own.Kind),(p.Own.Bits)⟩,(p.Unique)⟩: ScanParams)
def own22.dec (cs:List (AV El)): Option (ScanParams):= popA ScanParams.dec cs fun a0 c0=>popE c0 a0
def own22.enc (x:ScanParams): List (AV El):= [ScanParams.av x]
theorem own22.dec_ok : ∀cs x,own22.dec cs=some x→Imp (S:=S) cs (own22.enc x):= by
 intro cs x h
 unfold own22.dec at h
 obtain ⟨a0,c0,h0,k0⟩:= popA_some (S:=S) ScanParams.dec_ok h
 obtain ⟨rfl,rfl⟩:= popE_some (S:=S) h0
 exact (k0 _ (.refl _))
def own22.nf (p:ScanParams) (v:ScanParams): Prop:=Ob (((0:Nat)+ List.length p.Accept)* (16:Nat)≤(140737488355328:Nat))∧(Ob (((0:Nat)+ List.length p.Identities)* (24:Nat)≤(140737488355328:Nat))∧(own22.L ((⟨(p.Interval),(p.Window),(p.Active),(p.Policy),([]++ p.Accept),([]++ p.Identities),⟨(p.Own.Kind),(p.Own.Bits)⟩,(p.Unique)⟩: ScanParams)) v))
theorem own22.nf_ok (p:ScanParams) (v:ScanParams): evFun (mkCxI Tryz.prog S tab_clB 0 false sum_fIdx) 4 7 [ScanParams.av p] [] (fun r' H'=>Gives r' H' (own22.res v) (own22.news v))= own22.nf p v:=by kernel_rfl
theorem own22.key (p:ScanParams) (hp:p.Accept.length≤4611686018427∧p.Identities.length≤4611686018427) (v:ScanParams) (hv:v=own22 p): own22.nf p v:=by
 unfold own22 at hv
 unfold own22.nf
 refine ⟨⟨?_⟩, ?_⟩;rotate_left
 refine ⟨⟨?_⟩, ?_⟩;rotate_left
 subst hv;exact ⟨rfl,rfl⟩
 all_goals ((try clear hv);(try clear q1 q2);(try clear hk);(first | omega | ((try simp only [decide_eq_true_eq,decide_eq_false_iff_not,Bool.not_eq_true,Bool.not_eq_false,Bool.and_eq_true,Bool.or_eq_true,Bool.not_not,cond_and,cond_or,List.length_append,List.length_cons,List.length_nil] at *);(first | done | ((first | omega | (intros;(try simp only [Bool.not_not,cond_and,cond_or,Bool.and_eq_true,decide_eq_true_eq] at *);(have hf:=pFind_lt ids a;omega))| (intros;(try simp only [Bool.not_not,cond_and,cond_or,Bool.and_eq_true,decide_eq_true_eq] at *);(have hf:=r9Find_lt ids a;omega))| (intros;(try simp only [Bool.not_not,cond_and,cond_or,Bool.and_eq_true,decide_eq_true_eq] at *);(exact band_nn rfl _ _))| (intros;(try simp only [Bool.not_not,cond_and,cond_or,Bool.and_eq_true,decide_eq_true_eq] at *);(exact (wu64s _).2.1))| (intros;(try simp only [Bool.not_not,cond_and,cond_or,Bool.and_eq_true,decide_eq_true_eq] at *);(simp only [Bool.or_eq_false_iff,Bool.and_eq_false_iff,decide_eq_false_iff_not,decide_eq_true_eq,bne_iff_ne,beq_iff_eq,bne_eq_false_iff_eq,beq_eq_false_iff_ne,ne_eq,true_and] at *;omega))| (intros;(try simp only [Bool.not_not,cond_and,cond_or,Bool.and_eq_true,decide_eq_true_eq] at *);(simp only [List.length_drop,List.length_take,List.length_append,List.length_cons,List.length_nil] at *;omega))| (intros;omega)| (intros;simp only [Bool.not_not,cond_and,cond_or,Bool.and_eq_true,decide_eq_true_eq] at *;omega)| (intros;simp_all [Bool.not_not];done)))))))
def own22.ct:Ct El:=ctOf own22.dec (fun x=>[x.Accept.length≤4611686018427∧x.Identities.length≤4611686018427]) (fun x=>own22.res (own22 x)) (fun x=>own22.news (own22 x))
theorem own22.ok:CtOk (mkCx Tryz.prog S [] 0) 7 own22.ct:=ct_mk (C:=(mkCxI Tryz.prog S tab_clB 0 false sum_fIdx)) (mkCxI_ok sigOk mixed tab_clB_ok 0 false sum_fIdx_ok) own22.dec_ok (fun x=>rfl) 4 (fun x hp=>(own22.nf_ok x _).mpr (own22.key x (hp _ (List.mem_singleton.2 rfl)) _ rfl))
def tab_own22:List (FuncId×Ct El):= (7,own22.ct):: tab_small22
theorem tab_own22_ok:TabOk Tryz.prog S tab_own22:=⟨own22.ok,by kernel_rfl,tab_small22_ok⟩
def copied22.res (r:AdvPDU): AV El:=AdvPDU.av (r)
def copied22.news (r:AdvPDU): List (AObj El):= []
def copied22.L (e v:AdvPDU): Prop:=copied22.res e=copied22.res v∧copied22.news e=copied22.news v
def copied22 (p:AdvPDU): AdvPDU:=(⟨(p.Kind),⟨(p.Sender.Kind),(p.Sender.Bits)⟩,⟨(p.Target.Kind),(p.Target.Bits)⟩,([]++ p.Data),⟨(p.Conn.Access),(p.Conn.Init),⟨(p.Conn.Update.WinSize),(p.Conn.Update.WinOffset),(p.Conn.Update.Interval),(p.Conn.Update.Latency),(p.Conn.Update.Timeout)⟩,(p.Conn.Map),(p.Conn.Hop),(p.Conn.PPM),(p.Conn.Algorithm)⟩⟩: AdvPDU)
def copied22.dec (cs:List (AV El)): Option (AdvPDU):= popA AdvPDU.dec cs fun a0 c0=>popE c0 a0
def copied22.enc (x:AdvPDU): List (AV El):= [AdvPDU.av x]
theorem copied22.dec_ok : ∀cs x,copied22.dec cs=some x→Imp (S:=S) cs (copied22.enc x):= by
 intro cs x h
 unfold copied22.dec at h
 obtain ⟨a0,c0,h0,k0⟩:= popA_some (S:=S) AdvPDU.dec_ok h
 obtain ⟨rfl,rfl⟩:= popE_some (S:=S) h0
 exact (k0 _ (.refl _))
def copied22.nf (p:AdvPDU) (v:AdvPDU): Prop:=Ob (((0:Nat)+ List.length p.Data)* (1:Nat)≤(140737488355328:Nat))∧(copied22.L ((⟨(p.Kind),⟨(p.Sender.Kind),(p.Sender.Bits)⟩,⟨(p.Target.Kind),(p.Target.Bits)⟩,([]++ p.Data),⟨(p.Conn.Access),(p.Conn.Init),⟨(p.Conn.Update.WinSize),(p.Conn.Update.WinOffset),(p.Conn.Update.Interval),(p.Conn.Update.Latency),(p.Conn.Update.Timeout)⟩,(p.Conn.Map),(p.Conn.Hop),(p.Conn.PPM),(p.Conn.Algorithm)⟩⟩: AdvPDU)) v)
theorem copied22.nf_ok (p:AdvPDU) (v:AdvPDU): evFun (mkCxI Tryz.prog S tab_clB 0 false sum_fIdx) 4 10 [AdvPDU.av p] [] (fun r' H'=>Gives r' H' (copied22.res v) (copied22.news v))= copied22.nf p v:=by kernel_rfl
theorem copied22.key (p:AdvPDU) (hp:p.Data.length≤140737488355328) (v:AdvPDU) (hv:v=copied22 p): copied22.nf p v:=by
 unfold copied22 at hv
 unfold copied22.nf
 refine ⟨⟨by (try clear hv);(try clear q1 q2);(try clear hk);(first | omega | ((try simp only [decide_eq_true_eq,decide_eq_false_iff_not,Bool.not_eq_true,Bool.not_eq_false,Bool.and_eq_true,Bool.or_eq_true,Bool.not_not,cond_and,cond_or,List.length_append,List.length_cons,List.length_nil] at *);(first | done | ((first | omega | (intros;(try simp only [Bool.not_not,cond_and,cond_or,Bool.and_eq_true,decide_eq_true_eq] at *);(have hf:=pFind_lt ids a;omega))| (intros;(try simp only [Bool.not_not,cond_and,cond_or,Bool.and_eq_true,decide_eq_true_eq] at *);(have hf:=r9Find_lt ids a;omega))| (intros;(try simp only [Bool.not_not,cond_and,cond_or,Bool.and_eq_true,decide_eq_true_eq] at *);(exact band_nn rfl _ _))| (intros;(try simp only [Bool.not_not,cond_and,cond_or,Bool.and_eq_true,decide_eq_true_eq] at *);(exact (wu64s _).2.1))| (intros;(try simp only [Bool.not_not,cond_and,cond_or,Bool.and_eq_true,decide_eq_true_eq] at *);(simp only [Bool.or_eq_false_iff,Bool.and_eq_false_iff,decide_eq_false_iff_not,decide_eq_true_eq,bne_iff_ne,beq_iff_eq,bne_eq_false_iff_eq,beq_eq_false_iff_ne,ne_eq,true_and] at *;omega))| (intros;(try simp only [Bool.not_not,cond_and,cond_or,Bool.and_eq_true,decide_eq_true_eq] at *);(simp only [List.length_drop,List.length_take,List.length_append,List.length_cons,List.length_nil] at *;omega))| (intros;omega)| (intros;simp only [Bool.not_not,cond_and,cond_or,Bool.and_eq_true,decide_eq_true_eq] at *;omega)| (intros;simp_all [Bool.not_not];done))))))⟩, ?_⟩
 subst hv;exact ⟨rfl,rfl⟩
def copied22.ct:Ct El:=ctOf copied22.dec (fun x=>[x.Data.length≤140737488355328]) (fun x=>copied22.res (copied22 x)) (fun x=>copied22.news (copied22 x))
theorem copied22.ok:CtOk (mkCx Tryz.prog S [] 0) 10 copied22.ct:=ct_mk (C:=(mkCxI Tryz.prog S tab_clB 0 false sum_fIdx)) (mkCxI_ok sigOk mixed tab_clB_ok 0 false sum_fIdx_ok) copied22.dec_ok (fun x=>rfl) 4 (fun x hp=>(copied22.nf_ok x _).mpr (copied22.key x (hp _ (List.mem_singleton.2 rfl)) _ rfl))
def tab_copied22:List (FuncId×Ct El):= (10,copied22.ct):: tab_own22
theorem tab_copied22_ok:TabOk Tryz.prog S tab_copied22:=⟨copied22.ok,by kernel_rfl,tab_own22_ok⟩
end Go.Aw.W
