/- Contracts of the seat (printed by ct.py). -/
import Derived.Test.YtppceadhdckpmaaGreatDoorXW17
set_option linter.unusedVariables false
set_option linter.unusedSimpArgs false
set_option maxRecDepth 20000
set_option maxHeartbeats 1000000
namespace Go.Aw.W
open Go Go.Aw Go.Proofs
attribute [local irreducible] evCode evFun evOps evDs evOne ctxK loopK loopB subC bodyC headS okH roundK
def r19Same.res (r:Bool): AV El:=.v (.bool (r))
def r19Same.news (r:Bool): List (AObj El):= []
def r19Same.L (e v:Bool): Prop:=r19Same.res e=r19Same.res v∧r19Same.news e=r19Same.news v
def r19Same (p:AdvPDU) (q:AdvPDU): Bool:=bif bif bif bif p.Kind==q.Kind then p.Sender.Kind==q.Sender.Kind && p.Sender.Bits==q.Sender.Bits else false then p.Target.Kind==q.Target.Kind && p.Target.Bits==q.Target.Bits else false then r2Same p.Data q.Data else false then p.Conn.Access==q.Conn.Access && (p.Conn.Init==q.Conn.Init && (p.Conn.Update.WinSize==q.Conn.Update.WinSize && (p.Conn.Update.WinOffset==q.Conn.Update.WinOffset && (p.Conn.Update.Interval==q.Conn.Update.Interval && (p.Conn.Update.Latency==q.Conn.Update.Latency && (p.Conn.Update.Timeout==q.Conn.Update.Timeout && (p.Conn.Map==q.Conn.Map && (p.Conn.Hop==q.Conn.Hop && (p.Conn.PPM==q.Conn.PPM && p.Conn.Algorithm==q.Conn.Algorithm))))))))) else false
def r19Same.dec (cs:List (AV El)): Option (AdvPDU×AdvPDU):= popA AdvPDU.dec cs fun a0 c0=>popA AdvPDU.dec c0 fun a1 c1=>popE c1 (a0,a1)
def r19Same.enc (x:AdvPDU×AdvPDU): List (AV El):= [AdvPDU.av x.1,AdvPDU.av x.2]
theorem r19Same.dec_ok : ∀cs x,r19Same.dec cs=some x→Imp (S:=S) cs (r19Same.enc x):= by
 intro cs x h
 unfold r19Same.dec at h
 obtain ⟨a0,c0,h0,k0⟩:= popA_some (S:=S) AdvPDU.dec_ok h
 obtain ⟨a1,c1,h1,k1⟩:= popA_some (S:=S) AdvPDU.dec_ok h0
 obtain ⟨rfl,rfl⟩:= popE_some (S:=S) h1
 exact (k0 _ (k1 _ (.refl _)))
def r19Same.nf (p:AdvPDU) (q:AdvPDU) (v:Bool): Prop:=Ob (o3 (p.Kind==q.Kind))∧(Ob (o3 (p.Kind==q.Kind))∧(Ob (o3 (p.Kind==q.Kind))∧(Ob (o3 (p.Kind==q.Kind))∧(Ob (o2 (p.Kind==q.Kind))∧(Ob (o3 (bif p.Kind==q.Kind then p.Sender.Kind==q.Sender.Kind && p.Sender.Bits==q.Sender.Bits else false))∧(Ob (o3 (bif p.Kind==q.Kind then p.Sender.Kind==q.Sender.Kind && p.Sender.Bits==q.Sender.Bits else false))∧(Ob (o3 (bif p.Kind==q.Kind then p.Sender.Kind==q.Sender.Kind && p.Sender.Bits==q.Sender.Bits else false))∧(Ob (o3 (bif p.Kind==q.Kind then p.Sender.Kind==q.Sender.Kind && p.Sender.Bits==q.Sender.Bits else false))∧(Ob (o2 (bif p.Kind==q.Kind then p.Sender.Kind==q.Sender.Kind && p.Sender.Bits==q.Sender.Bits else false))∧(Ob (o3 (bif bif p.Kind==q.Kind then p.Sender.Kind==q.Sender.Kind && p.Sender.Bits==q.Sender.Bits else false then p.Target.Kind==q.Target.Kind && p.Target.Bits==q.Target.Bits else false))∧(Ob (o3 (bif bif p.Kind==q.Kind then p.Sender.Kind==q.Sender.Kind && p.Sender.Bits==q.Sender.Bits else false then p.Target.Kind==q.Target.Kind && p.Target.Bits==q.Target.Bits else false))∧(Ob (o3 (bif bif p.Kind==q.Kind then p.Sender.Kind==q.Sender.Kind && p.Sender.Bits==q.Sender.Bits else false then p.Target.Kind==q.Target.Kind && p.Target.Bits==q.Target.Bits else false))∧(Ob (o3 (bif bif p.Kind==q.Kind then p.Sender.Kind==q.Sender.Kind && p.Sender.Bits==q.Sender.Bits else false then p.Target.Kind==q.Target.Kind && p.Target.Bits==q.Target.Bits else false))∧(Ob (o2 (bif bif p.Kind==q.Kind then p.Sender.Kind==q.Sender.Kind && p.Sender.Bits==q.Sender.Bits else false then p.Target.Kind==q.Target.Kind && p.Target.Bits==q.Target.Bits else false))∧(Ob (o3 (bif bif bif p.Kind==q.Kind then p.Sender.Kind==q.Sender.Kind && p.Sender.Bits==q.Sender.Bits else false then p.Target.Kind==q.Target.Kind && p.Target.Bits==q.Target.Bits else false then r2Same p.Data q.Data else false))∧(Ob (o3 (bif bif bif p.Kind==q.Kind then p.Sender.Kind==q.Sender.Kind && p.Sender.Bits==q.Sender.Bits else false then p.Target.Kind==q.Target.Kind && p.Target.Bits==q.Target.Bits else false then r2Same p.Data q.Data else false))∧(Ob (o3 (bif bif bif p.Kind==q.Kind then p.Sender.Kind==q.Sender.Kind && p.Sender.Bits==q.Sender.Bits else false then p.Target.Kind==q.Target.Kind && p.Target.Bits==q.Target.Bits else false then r2Same p.Data q.Data else false))∧(Ob (o3 (bif bif bif p.Kind==q.Kind then p.Sender.Kind==q.Sender.Kind && p.Sender.Bits==q.Sender.Bits else false then p.Target.Kind==q.Target.Kind && p.Target.Bits==q.Target.Bits else false then r2Same p.Data q.Data else false))∧(Ob (o2 (bif bif bif p.Kind==q.Kind then p.Sender.Kind==q.Sender.Kind && p.Sender.Bits==q.Sender.Bits else false then p.Target.Kind==q.Target.Kind && p.Target.Bits==q.Target.Bits else false then r2Same p.Data q.Data else false))∧(r19Same.L (bif bif bif bif p.Kind==q.Kind then p.Sender.Kind==q.Sender.Kind && p.Sender.Bits==q.Sender.Bits else false then p.Target.Kind==q.Target.Kind && p.Target.Bits==q.Target.Bits else false then r2Same p.Data q.Data else false then p.Conn.Access==q.Conn.Access && (p.Conn.Init==q.Conn.Init && (p.Conn.Update.WinSize==q.Conn.Update.WinSize && (p.Conn.Update.WinOffset==q.Conn.Update.WinOffset && (p.Conn.Update.Interval==q.Conn.Update.Interval && (p.Conn.Update.Latency==q.Conn.Update.Latency && (p.Conn.Update.Timeout==q.Conn.Update.Timeout && (p.Conn.Map==q.Conn.Map && (p.Conn.Hop==q.Conn.Hop && (p.Conn.PPM==q.Conn.PPM && p.Conn.Algorithm==q.Conn.Algorithm))))))))) else false) v))))))))))))))))))))
theorem r19Same.nf_ok (p:AdvPDU) (q:AdvPDU) (v:Bool): evFun (mkCxI Tryz.prog S tab_r21SameIds 0 false sum_fIdx) 4 36 [AdvPDU.av p,AdvPDU.av q] [] (fun r' H'=>Gives r' H' (r19Same.res v) (r19Same.news v))= r19Same.nf p q v:=by kernel_rfl
theorem r19Same.key (p:AdvPDU) (q:AdvPDU) (v:Bool) (hv:v=r19Same p q): r19Same.nf p q v:=by
 unfold r19Same at hv
 unfold r19Same.nf
 iterate 4 refine ⟨⟨o3_ok _⟩, ?_⟩
 refine ⟨⟨o2_ok _⟩, ?_⟩
 iterate 4 refine ⟨⟨o3_ok _⟩, ?_⟩
 refine ⟨⟨o2_ok _⟩, ?_⟩
 iterate 4 refine ⟨⟨o3_ok _⟩, ?_⟩
 refine ⟨⟨o2_ok _⟩, ?_⟩
 iterate 4 refine ⟨⟨o3_ok _⟩, ?_⟩
 refine ⟨⟨o2_ok _⟩, ?_⟩
 subst hv;exact ⟨rfl,rfl⟩
def r19Same.ct:Ct El:=ctOf r19Same.dec (fun _=>[]) (fun x=>r19Same.res (r19Same x.1 x.2)) (fun x=>r19Same.news (r19Same x.1 x.2))
theorem r19Same.ok:CtOk (mkCx Tryz.prog S [] 0) 36 r19Same.ct:=ct_mk (C:=(mkCxI Tryz.prog S tab_r21SameIds 0 false sum_fIdx)) (mkCxI_ok sigOk mixed tab_r21SameIds_ok 0 false sum_fIdx_ok) r19Same.dec_ok (fun x=>rfl) 4 (fun x _=>(r19Same.nf_ok x.1 x.2 _).mpr (r19Same.key x.1 x.2 _ rfl))
def tab_r19Same:List (FuncId×Ct El):= (36,r19Same.ct):: tab_r21SameIds
theorem tab_r19Same_ok:TabOk Tryz.prog S tab_r19Same:=⟨r19Same.ok,by kernel_rfl,tab_r21SameIds_ok⟩
theorem fIdx_lt (list:List Identity) (a:Address): ∀(n:Nat) (i:Int),(0 < (list.length:Int)∨(0 < n∧(list.length:Int)≤i))→fIdx.go list a n i < list.length
 | 0,i,h=>by show (0:Int) < _;omega
 | n+1,i,h=>by
  unfold fIdx.go
  by_cases hi:i < list.length
  ·rw [decide_eq_true hi,cond_true]
   generalize (bif (List.getD list (Int.toNat i) Identity.zero).Address.Kind==a.Kind && (List.getD list (Int.toNat i) Identity.zero).Address.Bits==a.Bits then true else pResolves (List.getD list (Int.toNat i) Identity.zero).IRK a)= m
   cases m
   ·exact fIdx_lt list a n _ (by omega)
   ·exact hi
  ·rw [decide_eq_false hi,cond_false];omega
theorem r9Find_lt0 (list:List Identity) (a:Address): ∀(n:Nat) (i:Int),(0 < (list.length:Int)∨(0 < n∧(list.length:Int)≤i))→r9Find.go list a n i < list.length
 | 0,i,h=>by show (0:Int) < _;omega
 | n+1,i,h=>by
  unfold r9Find.go
  by_cases hi:i < list.length
  ·rw [decide_eq_true hi,cond_true]
   generalize (bif (List.getD list (Int.toNat i) Identity.zero).Address.Kind==a.Kind && (List.getD list (Int.toNat i) Identity.zero).Address.Bits==a.Bits then true else r9Resolves (List.getD list (Int.toNat i) Identity.zero).IRK a)= m
   cases m
   ·exact r9Find_lt0 list a n _ (by omega)
   ·exact hi
  ·rw [decide_eq_false hi,cond_false];omega
theorem pFind_lt (list:List Identity) (a:Address): pFind list a < list.length:=by
 unfold pFind fIdx
 cases aCheck a != (0:Int)
 ·exact fIdx_lt list a _ _ (by omega)
 ·show (-1:Int) < _;omega
theorem r9Find_lt (list:List Identity) (a:Address): r9Find list a < list.length:=by
 unfold r9Find
 cases r8Check a != (0:Int)
 ·exact r9Find_lt0 list a _ _ (by omega)
 ·show (-1:Int) < _;omega
def accHas.res (r:Bool): AV El:=.v (.bool (r))
def accHas.news (r:Bool): List (AObj El):= []
def accHas.L (e v:Bool): Prop:=accHas.res e=accHas.res v∧accHas.news e=accHas.news v
def accHas (l:List Address) (ids:List Identity) (a:Address): Bool:=cond (aHas l a) (true) (bif decide ((0:Int)≤pFind ids a) then aHas l (List.getD ids (Int.toNat (pFind ids a)) Identity.zero).Address else false)
def accHas.dec (cs:List (AV El)): Option ((List Address)×(List Identity)×Address):= popS 26 cs fun a0 c0=>popS 88 c0 fun a1 c1=>popA Address.dec c1 fun a2 c2=>popE c2 (a0,a1,a2)
def accHas.enc (x:(List Address)×(List Identity)×Address): List (AV El):= [.sl 26 (x.1:List (El 26)) false, .sl 88 (x.2.1:List (El 88)) false,Address.av x.2.2]
theorem accHas.dec_ok : ∀cs x,accHas.dec cs=some x→Imp (S:=S) cs (accHas.enc x):= by
 intro cs x h
 unfold accHas.dec at h
 obtain ⟨a0,c0,h0,k0⟩:= popS_some (S:=S) (t:=26) h
 obtain ⟨a1,c1,h1,k1⟩:= popS_some (S:=S) (t:=88) h0
 obtain ⟨a2,c2,h2,k2⟩:= popA_some (S:=S) Address.dec_ok h1
 obtain ⟨rfl,rfl⟩:= popE_some (S:=S) h2
 exact (k0 _ (k1 _ (k2 _ (.refl _))))
def accHas.nf (l:List Address) (ids:List Identity) (a:Address) (v:Bool): Prop:=cond (aHas l a) (accHas.L (true) v) (Ob (o3 (decide ((0:Int)≤pFind ids a)))∧(Ob (o3 (decide ((0:Int)≤pFind ids a)))∧(Ob (decide ((0:Int)≤pFind ids a)= true→(0:Int)≤pFind ids a∧pFind ids a < (↑(List.length ids): Int))∧(Ob (o3 (decide ((0:Int)≤pFind ids a)))∧(Ob (o3 (decide ((0:Int)≤pFind ids a)))∧(Ob (o3 (decide ((0:Int)≤pFind ids a)))∧(Ob (o3 (decide ((0:Int)≤pFind ids a)))∧(Ob (o2 (decide ((0:Int)≤pFind ids a)))∧(accHas.L (bif decide ((0:Int)≤pFind ids a) then aHas l (List.getD ids (Int.toNat (pFind ids a)) Identity.zero).Address else false) v)))))))))
theorem accHas.nf_ok (l:List Address) (ids:List Identity) (a:Address) (v:Bool): evFun (mkCxI Tryz.prog S tab_r19Same 0 false sum_fIdx) 4 28 [.sl 26 (l:List (El 26)) false, .sl 88 (ids:List (El 88)) false,Address.av a] [] (fun r' H'=>Gives r' H' (accHas.res v) (accHas.news v))= accHas.nf l ids a v:=by kernel_rfl
theorem accHas.key (l:List Address) (ids:List Identity) (a:Address) (v:Bool) (hv:v=accHas l ids a): accHas.nf l ids a v:=by
 unfold accHas at hv
 unfold accHas.nf
 revert hv;refine by_cond2 (fun hb hv=>?_) (fun hb hv=>?_)
 ·subst hv;exact ⟨rfl,rfl⟩
 ·refine ⟨⟨o3_ok _⟩, ?_⟩
  refine ⟨⟨o3_ok _⟩, ?_⟩
  refine ⟨⟨by (try clear hv);(try clear q1 q2);(try clear hk);(first | omega | ((try simp only [decide_eq_true_eq,decide_eq_false_iff_not,Bool.not_eq_true,Bool.not_eq_false,Bool.and_eq_true,Bool.or_eq_true,Bool.not_not,cond_and,cond_or,List.length_append,List.length_cons,List.length_nil] at *);(first | done | ((first | omega | (intros;(try simp only [Bool.not_not,cond_and,cond_or,Bool.and_eq_true,decide_eq_true_eq] at *);(have hf:=pFind_lt ids a;omega))| (intros;(try simp only [Bool.not_not,cond_and,cond_or,Bool.and_eq_true,decide_eq_true_eq] at *);(have hf:=r9Find_lt ids a;omega))| (intros;(try simp only [Bool.not_not,cond_and,cond_or,Bool.and_eq_true,decide_eq_true_eq] at *);(exact band_nn rfl _ _))| (intros;(try simp only [Bool.not_not,cond_and,cond_or,Bool.and_eq_true,decide_eq_true_eq] at *);(exact (wu64s _).2.1))| (intros;(try simp only [Bool.not_not,cond_and,cond_or,Bool.and_eq_true,decide_eq_true_eq] at *);(simp only [Bool.or_eq_false_iff,Bool.and_eq_false_iff,decide_eq_false_iff_not,decide_eq_true_eq,bne_iff_ne,beq_iff_eq,bne_eq_false_iff_eq,beq_eq_false_iff_ne,ne_eq,true_and] at *;omega))| (intros;(try simp only [Bool.not_not,cond_and,cond_or,Bool.and_eq_true,decide_eq_true_eq] at *);(simp only [List.length_drop,List.length_take,List.length_append,List.length_cons,List.length_nil] at *;omega))| (intros;omega)| (intros;simp only [Bool.not_not,cond_and,cond_or,Bool.and_eq_true,decide_eq_true_eq] at *;omega)| (intros;simp_all [Bool.not_not];done))))))⟩, ?_⟩
  iterate 4 refine ⟨⟨o3_ok _⟩, ?_⟩
  refine ⟨⟨o2_ok _⟩, ?_⟩
  subst hv;exact ⟨rfl,rfl⟩
def accHas.ct:Ct El:=ctOf accHas.dec (fun _=>[]) (fun x=>accHas.res (accHas x.1 x.2.1 x.2.2)) (fun x=>accHas.news (accHas x.1 x.2.1 x.2.2))
theorem accHas.ok:CtOk (mkCx Tryz.prog S [] 0) 28 accHas.ct:=ct_mk (C:=(mkCxI Tryz.prog S tab_r19Same 0 false sum_fIdx)) (mkCxI_ok sigOk mixed tab_r19Same_ok 0 false sum_fIdx_ok) accHas.dec_ok (fun x=>rfl) 4 (fun x _=>(accHas.nf_ok x.1 x.2.1 x.2.2 _).mpr (accHas.key x.1 x.2.1 x.2.2 _ rfl))
def tab_accHas:List (FuncId×Ct El):= (28,accHas.ct):: tab_r19Same
theorem tab_accHas_ok:TabOk Tryz.prog S tab_accHas:=⟨accHas.ok,by kernel_rfl,tab_r19Same_ok⟩
def r20Has.res (r:Bool): AV El:=.v (.bool (r))
def r20Has.news (r:Bool): List (AObj El):= []
def r20Has.L (e v:Bool): Prop:=r20Has.res e=r20Has.res v∧r20Has.news e=r20Has.news v
def r20Has (l:List Address) (ids:List Identity) (a:Address): Bool:=cond (r20Element l a) (true) (bif decide ((0:Int)≤r9Find ids a) then r20Element l (List.getD ids (Int.toNat (r9Find ids a)) Identity.zero).Address else false)
def r20Has.dec (cs:List (AV El)): Option ((List Address)×(List Identity)×Address):= popS 26 cs fun a0 c0=>popS 88 c0 fun a1 c1=>popA Address.dec c1 fun a2 c2=>popE c2 (a0,a1,a2)
def r20Has.enc (x:(List Address)×(List Identity)×Address): List (AV El):= [.sl 26 (x.1:List (El 26)) false, .sl 88 (x.2.1:List (El 88)) false,Address.av x.2.2]
theorem r20Has.dec_ok : ∀cs x,r20Has.dec cs=some x→Imp (S:=S) cs (r20Has.enc x):= by
 intro cs x h
 unfold r20Has.dec at h
 obtain ⟨a0,c0,h0,k0⟩:= popS_some (S:=S) (t:=26) h
 obtain ⟨a1,c1,h1,k1⟩:= popS_some (S:=S) (t:=88) h0
 obtain ⟨a2,c2,h2,k2⟩:= popA_some (S:=S) Address.dec_ok h1
 obtain ⟨rfl,rfl⟩:= popE_some (S:=S) h2
 exact (k0 _ (k1 _ (k2 _ (.refl _))))
def r20Has.nf (l:List Address) (ids:List Identity) (a:Address) (v:Bool): Prop:=cond (r20Element l a) (r20Has.L (true) v) (Ob (o3 (decide ((0:Int)≤r9Find ids a)))∧(Ob (o3 (decide ((0:Int)≤r9Find ids a)))∧(Ob (decide ((0:Int)≤r9Find ids a)= true→(0:Int)≤r9Find ids a∧r9Find ids a < (↑(List.length ids): Int))∧(Ob (o3 (decide ((0:Int)≤r9Find ids a)))∧(Ob (o3 (decide ((0:Int)≤r9Find ids a)))∧(Ob (o3 (decide ((0:Int)≤r9Find ids a)))∧(Ob (o3 (decide ((0:Int)≤r9Find ids a)))∧(Ob (o2 (decide ((0:Int)≤r9Find ids a)))∧(r20Has.L (bif decide ((0:Int)≤r9Find ids a) then r20Element l (List.getD ids (Int.toNat (r9Find ids a)) Identity.zero).Address else false) v)))))))))
theorem r20Has.nf_ok (l:List Address) (ids:List Identity) (a:Address) (v:Bool): evFun (mkCxI Tryz.prog S tab_r19Same 0 false sum_fIdx) 4 52 [.sl 26 (l:List (El 26)) false, .sl 88 (ids:List (El 88)) false,Address.av a] [] (fun r' H'=>Gives r' H' (r20Has.res v) (r20Has.news v))= r20Has.nf l ids a v:=by kernel_rfl
theorem r20Has.key (l:List Address) (ids:List Identity) (a:Address) (v:Bool) (hv:v=r20Has l ids a): r20Has.nf l ids a v:=by
 unfold r20Has at hv
 unfold r20Has.nf
 revert hv;refine by_cond2 (fun hb hv=>?_) (fun hb hv=>?_)
 ·subst hv;exact ⟨rfl,rfl⟩
 ·refine ⟨⟨o3_ok _⟩, ?_⟩
  refine ⟨⟨o3_ok _⟩, ?_⟩
  refine ⟨⟨by (try clear hv);(try clear q1 q2);(try clear hk);(first | omega | ((try simp only [decide_eq_true_eq,decide_eq_false_iff_not,Bool.not_eq_true,Bool.not_eq_false,Bool.and_eq_true,Bool.or_eq_true,Bool.not_not,cond_and,cond_or,List.length_append,List.length_cons,List.length_nil] at *);(first | done | ((first | omega | (intros;(try simp only [Bool.not_not,cond_and,cond_or,Bool.and_eq_true,decide_eq_true_eq] at *);(have hf:=pFind_lt ids a;omega))| (intros;(try simp only [Bool.not_not,cond_and,cond_or,Bool.and_eq_true,decide_eq_true_eq] at *);(have hf:=r9Find_lt ids a;omega))| (intros;(try simp only [Bool.not_not,cond_and,cond_or,Bool.and_eq_true,decide_eq_true_eq] at *);(exact band_nn rfl _ _))| (intros;(try simp only [Bool.not_not,cond_and,cond_or,Bool.and_eq_true,decide_eq_true_eq] at *);(exact (wu64s _).2.1))| (intros;(try simp only [Bool.not_not,cond_and,cond_or,Bool.and_eq_true,decide_eq_true_eq] at *);(simp only [Bool.or_eq_false_iff,Bool.and_eq_false_iff,decide_eq_false_iff_not,decide_eq_true_eq,bne_iff_ne,beq_iff_eq,bne_eq_false_iff_eq,beq_eq_false_iff_ne,ne_eq,true_and] at *;omega))| (intros;(try simp only [Bool.not_not,cond_and,cond_or,Bool.and_eq_true,decide_eq_true_eq] at *);(simp only [List.length_drop,List.length_take,List.length_append,List.length_cons,List.length_nil] at *;omega))| (intros;omega)| (intros;simp only [Bool.not_not,cond_and,cond_or,Bool.and_eq_true,decide_eq_true_eq] at *;omega)| (intros;simp_all [Bool.not_not];done))))))⟩, ?_⟩
  iterate 4 refine ⟨⟨o3_ok _⟩, ?_⟩
  refine ⟨⟨o2_ok _⟩, ?_⟩
  subst hv;exact ⟨rfl,rfl⟩
def r20Has.ct:Ct El:=ctOf r20Has.dec (fun _=>[]) (fun x=>r20Has.res (r20Has x.1 x.2.1 x.2.2)) (fun x=>r20Has.news (r20Has x.1 x.2.1 x.2.2))
theorem r20Has.ok:CtOk (mkCx Tryz.prog S [] 0) 52 r20Has.ct:=ct_mk (C:=(mkCxI Tryz.prog S tab_r19Same 0 false sum_fIdx)) (mkCxI_ok sigOk mixed tab_r19Same_ok 0 false sum_fIdx_ok) r20Has.dec_ok (fun x=>rfl) 4 (fun x _=>(r20Has.nf_ok x.1 x.2.1 x.2.2 _).mpr (r20Has.key x.1 x.2.1 x.2.2 _ rfl))
def tab_r20Has:List (FuncId×Ct El):= (52,r20Has.ct):: tab_accHas
theorem tab_r20Has_ok:TabOk Tryz.prog S tab_r20Has:=⟨r20Has.ok,by kernel_rfl,tab_accHas_ok⟩
end Go.Aw.W
