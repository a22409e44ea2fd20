/- Contracts of the seat (printed by ct.py). -/
import Derived.Test.YtlnbhdcaebmffaaGreatXW5
set_option linter.unusedVariables false
set_option linter.unusedSimpArgs false
set_option maxRecDepth 20000
set_option maxHeartbeats 1000000
namespace Go.Aw.W
open Go Go.Aw Go.Proofs
attribute [local irreducible] evCode evFun evOps evDs evOne ctxK loopK loopB subC bodyC headS okH roundK
def serAdd.res (r:Int): AV El:=.v (.int .u16 (r))
def serAdd.news (r:Int): List (AObj El):= []
def serAdd.L (e v:Int): Prop:=serAdd.res e=serAdd.res v∧serAdd.news e=serAdd.news v
def serAdd (a:Int) (n:Int): Int:=IntKind.wrap IntKind.u16 (a+IntKind.wrap IntKind.u16 n)
def serAdd.dec (cs:List (AV El)): Option (Int×Int):= popI .u16 cs fun a0 c0=>popI .i64 c0 fun a1 c1=>popE c1 (a0,a1)
def serAdd.enc (x:Int×Int): List (AV El):= [.v (.int .u16 x.1), .v (.int .i64 x.2)]
theorem serAdd.dec_ok : ∀cs x,serAdd.dec cs=some x→Imp (S:=S) cs (serAdd.enc x):= by
 intro cs x h
 unfold serAdd.dec at h
 obtain ⟨a0,c0,rfl,h0⟩:= popI_some (S:=S) h
 obtain ⟨a1,c1,rfl,h1⟩:= popI_some (S:=S) h0
 obtain ⟨rfl,rfl⟩:= popE_some (S:=S) h1
 exact (.cons (.cons (.refl _)))
def serAdd.nf (a:Int) (n:Int) (v:Int): Prop:=serAdd.L (IntKind.wrap IntKind.u16 (a+IntKind.wrap IntKind.u16 n)) v
theorem serAdd.nf_ok (a:Int) (n:Int) (v:Int): evFun (mkCx Tryz.prog S tab_r28New 0) 4 128 [.v (.int .u16 a), .v (.int .i64 n)] [] (fun r' H'=>Gives r' H' (serAdd.res v) (serAdd.news v))= serAdd.nf a n v:=by kernel_rfl
theorem serAdd.key (a:Int) (n:Int) (v:Int) (hv:v=serAdd a n): serAdd.nf a n v:=by
 unfold serAdd at hv
 unfold serAdd.nf
 subst hv;exact ⟨rfl,rfl⟩
def serAdd.ct:Ct El:=ctOf serAdd.dec (fun _=>[]) (fun x=>serAdd.res (serAdd x.1 x.2)) (fun x=>serAdd.news (serAdd x.1 x.2))
theorem serAdd.ok:CtOk (mkCx Tryz.prog S [] 0) 128 serAdd.ct:=ct_mk (C:=(mkCx Tryz.prog S tab_r28New 0)) (mkCx_ok sigOk mixed tab_r28New_ok 0) serAdd.dec_ok (fun x=>rfl) 4 (fun x _=>(serAdd.nf_ok x.1 x.2 _).mpr (serAdd.key x.1 x.2 _ rfl))
def tab_serAdd:List (FuncId×Ct El):= (128,serAdd.ct):: tab_r28New
theorem tab_serAdd_ok:TabOk Tryz.prog S tab_serAdd:=⟨serAdd.ok,by kernel_rfl,tab_r28New_ok⟩
def serDiff.res (r:Int): AV El:=.v (.int .i64 (r))
def serDiff.news (r:Int): List (AObj El):= []
def serDiff.L (e v:Int): Prop:=serDiff.res e=serDiff.res v∧serDiff.news e=serDiff.news v
def serDiff (a:Int) (b:Int): Int:=IntKind.wrap IntKind.i64 (IntKind.wrap IntKind.i16 (IntKind.wrap IntKind.u16 (b - a)))
def serDiff.dec (cs:List (AV El)): Option (Int×Int):= popI .u16 cs fun a0 c0=>popI .u16 c0 fun a1 c1=>popE c1 (a0,a1)
def serDiff.enc (x:Int×Int): List (AV El):= [.v (.int .u16 x.1), .v (.int .u16 x.2)]
theorem serDiff.dec_ok : ∀cs x,serDiff.dec cs=some x→Imp (S:=S) cs (serDiff.enc x):= by
 intro cs x h
 unfold serDiff.dec at h
 obtain ⟨a0,c0,rfl,h0⟩:= popI_some (S:=S) h
 obtain ⟨a1,c1,rfl,h1⟩:= popI_some (S:=S) h0
 obtain ⟨rfl,rfl⟩:= popE_some (S:=S) h1
 exact (.cons (.cons (.refl _)))
def serDiff.nf (a:Int) (b:Int) (v:Int): Prop:=serDiff.L (IntKind.wrap IntKind.i64 (IntKind.wrap IntKind.i16 (IntKind.wrap IntKind.u16 (b - a)))) v
theorem serDiff.nf_ok (a:Int) (b:Int) (v:Int): evFun (mkCx Tryz.prog S tab_r28New 0) 4 134 [.v (.int .u16 a), .v (.int .u16 b)] [] (fun r' H'=>Gives r' H' (serDiff.res v) (serDiff.news v))= serDiff.nf a b v:=by kernel_rfl
theorem serDiff.key (a:Int) (b:Int) (v:Int) (hv:v=serDiff a b): serDiff.nf a b v:=by
 unfold serDiff at hv
 unfold serDiff.nf
 subst hv;exact ⟨rfl,rfl⟩
def serDiff.ct:Ct El:=ctOf serDiff.dec (fun _=>[]) (fun x=>serDiff.res (serDiff x.1 x.2)) (fun x=>serDiff.news (serDiff x.1 x.2))
theorem serDiff.ok:CtOk (mkCx Tryz.prog S [] 0) 134 serDiff.ct:=ct_mk (C:=(mkCx Tryz.prog S tab_r28New 0)) (mkCx_ok sigOk mixed tab_r28New_ok 0) serDiff.dec_ok (fun x=>rfl) 4 (fun x _=>(serDiff.nf_ok x.1 x.2 _).mpr (serDiff.key x.1 x.2 _ rfl))
def tab_serDiff:List (FuncId×Ct El):= (134,serDiff.ct):: tab_serAdd
theorem tab_serDiff_ok:TabOk Tryz.prog S tab_serDiff:=⟨serDiff.ok,by kernel_rfl,tab_serAdd_ok⟩
def pChange.res (r:Change): AV El:=Change.av (r)
def pChange.news (r:Change): List (AObj El):= []
def pChange.L (e v:Change): Prop:=pChange.res e=pChange.res v∧pChange.news e=pChange.news v
def pChange (c:Control): Change:=(⟨(c.Kind),(c.Instant),⟨(c.Update.WinSize),(c.Update.WinOffset),(c.Update.Interval),(c.Update.Latency),(c.Update.Timeout)⟩,(c.Map)⟩: Change)
def pChange.dec (cs:List (AV El)): Option (Control):= popA Control.dec cs fun a0 c0=>popE c0 a0
def pChange.enc (x:Control): List (AV El):= [Control.av x]
theorem pChange.dec_ok : ∀cs x,pChange.dec cs=some x→Imp (S:=S) cs (pChange.enc x):= by
 intro cs x h
 unfold pChange.dec at h
 obtain ⟨a0,c0,h0,k0⟩:= popA_some (S:=S) Control.dec_ok h
 obtain ⟨rfl,rfl⟩:= popE_some (S:=S) h0
 exact (k0 _ (.refl _))
def pChange.nf (c:Control) (v:Change): Prop:=pChange.L ((⟨(c.Kind),(c.Instant),⟨(c.Update.WinSize),(c.Update.WinOffset),(c.Update.Interval),(c.Update.Latency),(c.Update.Timeout)⟩,(c.Map)⟩: Change)) v
theorem pChange.nf_ok (c:Control) (v:Change): evFun (mkCx Tryz.prog S tab_r28New 0) 4 68 [Control.av c] [] (fun r' H'=>Gives r' H' (pChange.res v) (pChange.news v))= pChange.nf c v:=by kernel_rfl
theorem pChange.key (c:Control) (v:Change) (hv:v=pChange c): pChange.nf c v:=by
 unfold pChange at hv
 unfold pChange.nf
 subst hv;exact ⟨rfl,rfl⟩
def pChange.ct:Ct El:=ctOf pChange.dec (fun _=>[]) (fun x=>pChange.res (pChange x)) (fun x=>pChange.news (pChange x))
theorem pChange.ok:CtOk (mkCx Tryz.prog S [] 0) 68 pChange.ct:=ct_mk (C:=(mkCx Tryz.prog S tab_r28New 0)) (mkCx_ok sigOk mixed tab_r28New_ok 0) pChange.dec_ok (fun x=>rfl) 4 (fun x _=>(pChange.nf_ok x _).mpr (pChange.key x _ rfl))
def tab_pChange:List (FuncId×Ct El):= (68,pChange.ct):: tab_serDiff
theorem tab_pChange_ok:TabOk Tryz.prog S tab_pChange:=⟨pChange.ok,by kernel_rfl,tab_serDiff_ok⟩
def pChanges.res (r:Bool): AV El:=.v (.bool (r))
def pChanges.news (r:Bool): List (AObj El):= []
def pChanges.L (e v:Bool): Prop:=pChanges.res e=pChanges.res v∧pChanges.news e=pChanges.news v
def pChanges (kind:Int): Bool:=bif kind==(0:Int) then true else kind==(1:Int)
def pChanges.dec (cs:List (AV El)): Option (Int):= popI .i64 cs fun a0 c0=>popE c0 a0
def pChanges.enc (x:Int): List (AV El):= [.v (.int .i64 x)]
theorem pChanges.dec_ok : ∀cs x,pChanges.dec cs=some x→Imp (S:=S) cs (pChanges.enc x):= by
 intro cs x h
 unfold pChanges.dec at h
 obtain ⟨a0,c0,rfl,h0⟩:= popI_some (S:=S) h
 obtain ⟨rfl,rfl⟩:= popE_some (S:=S) h0
 exact (.cons (.refl _))
def pChanges.nf (kind:Int) (v:Bool): Prop:=Ob (o3 (!kind==(0:Int)))∧(Ob (on (kind==(0:Int)))∧(pChanges.L (bif kind==(0:Int) then true else kind==(1:Int)) v))
theorem pChanges.nf_ok (kind:Int) (v:Bool): evFun (mkCx Tryz.prog S tab_r28New 0) 4 35 [.v (.int .i64 kind)] [] (fun r' H'=>Gives r' H' (pChanges.res v) (pChanges.news v))= pChanges.nf kind v:=by kernel_rfl
theorem pChanges.key (kind:Int) (v:Bool) (hv:v=pChanges kind): pChanges.nf kind v:=by
 unfold pChanges at hv
 unfold pChanges.nf
 refine ⟨⟨o3_ok _⟩, ?_⟩
 refine ⟨⟨on_ok _⟩, ?_⟩
 subst hv;exact ⟨rfl,rfl⟩
def pChanges.ct:Ct El:=ctOf pChanges.dec (fun _=>[]) (fun x=>pChanges.res (pChanges x)) (fun x=>pChanges.news (pChanges x))
theorem pChanges.ok:CtOk (mkCx Tryz.prog S [] 0) 35 pChanges.ct:=ct_mk (C:=(mkCx Tryz.prog S tab_r28New 0)) (mkCx_ok sigOk mixed tab_r28New_ok 0) pChanges.dec_ok (fun x=>rfl) 4 (fun x _=>(pChanges.nf_ok x _).mpr (pChanges.key x _ rfl))
def tab_pChanges:List (FuncId×Ct El):= (35,pChanges.ct):: tab_pChange
theorem tab_pChanges_ok:TabOk Tryz.prog S tab_pChanges:=⟨pChanges.ok,by kernel_rfl,tab_pChange_ok⟩
def serPassed.res (r:Bool): AV El:=.v (.bool (r))
def serPassed.news (r:Bool): List (AObj El):= []
def serPassed.L (e v:Bool): Prop:=serPassed.res e=serPassed.res v∧serPassed.news e=serPassed.news v
def serPassed (now:Int) (instant:Int): Bool:=decide ((0:Int)≤serDiff instant now)
def serPassed.dec (cs:List (AV El)): Option (Int×Int):= popI .u16 cs fun a0 c0=>popI .u16 c0 fun a1 c1=>popE c1 (a0,a1)
def serPassed.enc (x:Int×Int): List (AV El):= [.v (.int .u16 x.1), .v (.int .u16 x.2)]
theorem serPassed.dec_ok : ∀cs x,serPassed.dec cs=some x→Imp (S:=S) cs (serPassed.enc x):= by
 intro cs x h
 unfold serPassed.dec at h
 obtain ⟨a0,c0,rfl,h0⟩:= popI_some (S:=S) h
 obtain ⟨a1,c1,rfl,h1⟩:= popI_some (S:=S) h0
 obtain ⟨rfl,rfl⟩:= popE_some (S:=S) h1
 exact (.cons (.cons (.refl _)))
def serPassed.nf (now:Int) (instant:Int) (v:Bool): Prop:=serPassed.L (decide ((0:Int)≤serDiff instant now)) v
theorem serPassed.nf_ok (now:Int) (instant:Int) (v:Bool): evFun (mkCx Tryz.prog S tab_pChanges 0) 4 91 [.v (.int .u16 now), .v (.int .u16 instant)] [] (fun r' H'=>Gives r' H' (serPassed.res v) (serPassed.news v))= serPassed.nf now instant v:=by kernel_rfl
theorem serPassed.key (now:Int) (instant:Int) (v:Bool) (hv:v=serPassed now instant): serPassed.nf now instant v:=by
 unfold serPassed at hv
 unfold serPassed.nf
 subst hv;exact ⟨rfl,rfl⟩
def serPassed.ct:Ct El:=ctOf serPassed.dec (fun _=>[]) (fun x=>serPassed.res (serPassed x.1 x.2)) (fun x=>serPassed.news (serPassed x.1 x.2))
theorem serPassed.ok:CtOk (mkCx Tryz.prog S [] 0) 91 serPassed.ct:=ct_mk (C:=(mkCx Tryz.prog S tab_pChanges 0)) (mkCx_ok sigOk mixed tab_pChanges_ok 0) serPassed.dec_ok (fun x=>rfl) 4 (fun x _=>(serPassed.nf_ok x.1 x.2 _).mpr (serPassed.key x.1 x.2 _ rfl))
def tab_serPassed:List (FuncId×Ct El):= (91,serPassed.ct):: tab_pChanges
theorem tab_serPassed_ok:TabOk Tryz.prog S tab_serPassed:=⟨serPassed.ok,by kernel_rfl,tab_pChanges_ok⟩
def insPlan.res (r:Int): AV El:=.v (.int .u16 (r))
def insPlan.news (r:Int): List (AObj El):= []
def insPlan.L (e v:Int): Prop:=insPlan.res e=insPlan.res v∧insPlan.news e=insPlan.news v
def insPlan (event:Int) (latency:Int): Int:=serAdd event (IntKind.wrap IntKind.i64 ((6:Int)+ minI (maxI latency (0:Int)) (499:Int)))
def insPlan.dec (cs:List (AV El)): Option (Int×Int):= popI .u16 cs fun a0 c0=>popI .i64 c0 fun a1 c1=>popE c1 (a0,a1)
def insPlan.enc (x:Int×Int): List (AV El):= [.v (.int .u16 x.1), .v (.int .i64 x.2)]
theorem insPlan.dec_ok : ∀cs x,insPlan.dec cs=some x→Imp (S:=S) cs (insPlan.enc x):= by
 intro cs x h
 unfold insPlan.dec at h
 obtain ⟨a0,c0,rfl,h0⟩:= popI_some (S:=S) h
 obtain ⟨a1,c1,rfl,h1⟩:= popI_some (S:=S) h0
 obtain ⟨rfl,rfl⟩:= popE_some (S:=S) h1
 exact (.cons (.cons (.refl _)))
def insPlan.nf (event:Int) (latency:Int) (v:Int): Prop:=insPlan.L (serAdd event (IntKind.wrap IntKind.i64 ((6:Int)+ minI (maxI latency (0:Int)) (499:Int)))) v
theorem insPlan.nf_ok (event:Int) (latency:Int) (v:Int): evFun (mkCx Tryz.prog S tab_pChanges 0) 4 66 [.v (.int .u16 event), .v (.int .i64 latency)] [] (fun r' H'=>Gives r' H' (insPlan.res v) (insPlan.news v))= insPlan.nf event latency v:=by kernel_rfl
theorem insPlan.key (event:Int) (latency:Int) (v:Int) (hv:v=insPlan event latency): insPlan.nf event latency v:=by
 unfold insPlan at hv
 unfold insPlan.nf
 subst hv;exact ⟨rfl,rfl⟩
def insPlan.ct:Ct El:=ctOf insPlan.dec (fun _=>[]) (fun x=>insPlan.res (insPlan x.1 x.2)) (fun x=>insPlan.news (insPlan x.1 x.2))
theorem insPlan.ok:CtOk (mkCx Tryz.prog S [] 0) 66 insPlan.ct:=ct_mk (C:=(mkCx Tryz.prog S tab_pChanges 0)) (mkCx_ok sigOk mixed tab_pChanges_ok 0) insPlan.dec_ok (fun x=>rfl) 4 (fun x _=>(insPlan.nf_ok x.1 x.2 _).mpr (insPlan.key x.1 x.2 _ rfl))
def tab_insPlan:List (FuncId×Ct El):= (66,insPlan.ct):: tab_serPassed
theorem tab_insPlan_ok:TabOk Tryz.prog S tab_insPlan:=⟨insPlan.ok,by kernel_rfl,tab_serPassed_ok⟩
def insCheck.res (r:Int): AV El:=.v (.int .i64 (r))
def insCheck.news (r:Int): List (AObj El):= []
def insCheck.L (e v:Int): Prop:=insCheck.res e=insCheck.res v∧insCheck.news e=insCheck.news v
def insCheck (event:Int) (c:Change): Int:=cond (bif c.Kind != (0:Int) then c.Kind != (1:Int) else false) ((12:Int)) (cond (serPassed event c.Instant) ((18:Int)) ((0:Int)))
def insCheck.dec (cs:List (AV El)): Option (Int×Change):= popI .u16 cs fun a0 c0=>popA Change.dec c0 fun a1 c1=>popE c1 (a0,a1)
def insCheck.enc (x:Int×Change): List (AV El):= [.v (.int .u16 x.1),Change.av x.2]
theorem insCheck.dec_ok : ∀cs x,insCheck.dec cs=some x→Imp (S:=S) cs (insCheck.enc x):= by
 intro cs x h
 unfold insCheck.dec at h
 obtain ⟨a0,c0,rfl,h0⟩:= popI_some (S:=S) h
 obtain ⟨a1,c1,h1,k1⟩:= popA_some (S:=S) Change.dec_ok h0
 obtain ⟨rfl,rfl⟩:= popE_some (S:=S) h1
 exact (.cons (k1 _ (.refl _)))
def insCheck.nf (event:Int) (c:Change) (v:Int): Prop:=Ob (o3 (c.Kind != 0))∧(Ob (o3 (c.Kind != 0))∧(Ob (o2 (c.Kind != 0))∧(cond (bif c.Kind != 0 then c.Kind != 1 else false) (insCheck.L (12) v) (cond (serPassed event c.Instant) (insCheck.L (18) v) (insCheck.L (0) v)))))
theorem insCheck.nf_ok (event:Int) (c:Change) (v:Int): evFun (mkCx Tryz.prog S tab_insPlan 0) 4 129 [.v (.int .u16 event),Change.av c] [] (fun r' H'=>Gives r' H' (insCheck.res v) (insCheck.news v))= insCheck.nf event c v:=by kernel_rfl
theorem insCheck.key (event:Int) (c:Change) (v:Int) (hv:v=insCheck event c): insCheck.nf event c v:=by
 unfold insCheck at hv
 unfold insCheck.nf
 iterate 2 refine ⟨⟨o3_ok _⟩, ?_⟩
 refine ⟨⟨o2_ok _⟩, ?_⟩
 revert hv;refine by_cond2 (fun hb hv=>?_) (fun hb hv=>?_)
 ·subst hv;exact ⟨rfl,rfl⟩
 ·revert hv;refine by_cond2 (fun hb hv=>?_) (fun hb hv=>?_)
  ·subst hv;exact ⟨rfl,rfl⟩
  ·subst hv;exact ⟨rfl,rfl⟩
def insCheck.ct:Ct El:=ctOf insCheck.dec (fun _=>[]) (fun x=>insCheck.res (insCheck x.1 x.2)) (fun x=>insCheck.news (insCheck x.1 x.2))
theorem insCheck.ok:CtOk (mkCx Tryz.prog S [] 0) 129 insCheck.ct:=ct_mk (C:=(mkCx Tryz.prog S tab_insPlan 0)) (mkCx_ok sigOk mixed tab_insPlan_ok 0) insCheck.dec_ok (fun x=>rfl) 4 (fun x _=>(insCheck.nf_ok x.1 x.2 _).mpr (insCheck.key x.1 x.2 _ rfl))
def tab_insCheck:List (FuncId×Ct El):= (129,insCheck.ct):: tab_insPlan
theorem tab_insCheck_ok:TabOk Tryz.prog S tab_insCheck:=⟨insCheck.ok,by kernel_rfl,tab_insPlan_ok⟩
def insAdd.res (r:(List Change)×Int): AV El:=.tup [.gs 0, .v (.int .i64 (r.2))]
def insAdd.news (r:(List Change)×Int): List (AObj El):= [.row 55 (r.1:List (El 55))]
def insAdd.L (e v:(List Change)×Int): Prop:=insAdd.res e=insAdd.res v∧insAdd.news e=insAdd.news v
def insAdd (l:List Change) (event:Int) (c:Change): (List Change)×Int:=cond (insCheck event c != (0:Int)) ((l,insCheck event c)) (cond (decide ((0:Int) < (↑(List.length l): Int))) ((l,(20:Int))) (([c],(0:Int))))
def insAdd.dec (cs:List (AV El)): Option ((List Change)×Int×Change):= popS 55 cs fun a0 c0=>popI .u16 c0 fun a1 c1=>popA Change.dec c1 fun a2 c2=>popE c2 (a0,a1,a2)
def insAdd.enc (x:(List Change)×Int×Change): List (AV El):= [.sl 55 (x.1:List (El 55)) false, .v (.int .u16 x.2.1),Change.av x.2.2]
theorem insAdd.dec_ok : ∀cs x,insAdd.dec cs=some x→Imp (S:=S) cs (insAdd.enc x):= by
 intro cs x h
 unfold insAdd.dec at h
 obtain ⟨a0,c0,h0,k0⟩:= popS_some (S:=S) (t:=55) h
 obtain ⟨a1,c1,rfl,h1⟩:= popI_some (S:=S) h0
 obtain ⟨a2,c2,h2,k2⟩:= popA_some (S:=S) Change.dec_ok h1
 obtain ⟨rfl,rfl⟩:= popE_some (S:=S) h2
 exact (k0 _ (.cons (k2 _ (.refl _))))
def insAdd.nf (l:List Change) (event:Int) (c:Change) (v:(List Change)×Int): Prop:=cond (insCheck event c != 0) (Ob (List.length l*(64:Nat)≤(140737488355328:Nat))∧(insAdd.L ((l,insCheck event c)) v)) ((List.length l≤(9223372036854775807:Nat))→(cond (decide (0 < (↑(List.length l): Int))) (Ob (List.length l*(64:Nat)≤(140737488355328:Nat))∧(insAdd.L ((l,20)) v)) (insAdd.L (([c],0)) v)))
theorem insAdd.nf_ok (l:List Change) (event:Int) (c:Change) (v:(List Change)×Int): evFun (mkCx Tryz.prog S tab_insCheck 0) 4 67 [.sl 55 (l:List (El 55)) false, .v (.int .u16 event),Change.av c] [] (fun r' H'=>Gives r' H' (insAdd.res v) (insAdd.news v))= insAdd.nf l event c v:=by kernel_rfl
theorem insAdd.key (l:List Change) (event:Int) (c:Change) (hp:l.length≤1099511627776) (v:(List Change)×Int) (hv:v=insAdd l event c): insAdd.nf l event c v:=by
 unfold insAdd at hv
 unfold insAdd.nf
 revert hv;refine by_cond2 (fun hb hv=>?_) (fun hb hv=>?_)
 refine ⟨⟨?_⟩, ?_⟩;rotate_left
 subst hv;exact ⟨rfl,rfl⟩
 intro hlen
 revert hv;refine by_cond2 (fun hb hv=>?_) (fun hb hv=>?_)
 refine ⟨⟨?_⟩, ?_⟩;rotate_left
 subst hv;exact ⟨rfl,rfl⟩
 subst hv;exact ⟨rfl,rfl⟩
 all_goals ((try clear hv);(try clear q1 q2);(try clear hk);(first | omega | (simp only [cUpd,List.length_append,List.length_cons,List.length_nil] at *;omega)| (simp only [gUpdate,gMap,gParams,gTerm,gEncrypt,gEncAns,gUnknown,gVersion,gReject,gPlain,gFeat,gLen,cUpd,List.length_append,List.length_cons,List.length_nil] at *;omega)| ((try simp only [decide_eq_true_eq,decide_eq_false_iff_not,Bool.not_eq_true,Bool.not_eq_false,Bool.and_eq_true,Bool.or_eq_true,Bool.not_not,cond_and,cond_or,List.length_append,List.length_cons,List.length_nil] at *);(first | done | ((first | omega | (intros;(try simp only [Bool.not_not,cond_and,cond_or,Bool.and_eq_true,decide_eq_true_eq] at *);(exact band_nn rfl _ _))| (intros;(try simp only [Bool.not_not,cond_and,cond_or,Bool.and_eq_true,decide_eq_true_eq] at *);(exact (wu64s _).2.1))| (intros;(try simp only [Bool.not_not,cond_and,cond_or,Bool.and_eq_true,decide_eq_true_eq] at *);(simp only [Bool.or_eq_false_iff,Bool.and_eq_false_iff,decide_eq_false_iff_not,decide_eq_true_eq,bne_iff_ne,beq_iff_eq,bne_eq_false_iff_eq,beq_eq_false_iff_ne,ne_eq,true_and] at *;omega))| (intros;(try simp only [Bool.not_not,cond_and,cond_or,Bool.and_eq_true,decide_eq_true_eq] at *);(simp only [List.length_drop,List.length_take,List.length_append,List.length_cons,List.length_nil] at *;omega))| (intros;omega)| (intros;simp only [Bool.not_not,cond_and,cond_or,Bool.and_eq_true,decide_eq_true_eq] at *;omega)| (intros;simp_all [Bool.not_not];done)))))))
def insAdd.ct:Ct El:=ctOf insAdd.dec (fun x=>[x.1.length≤1099511627776]) (fun x=>insAdd.res (insAdd x.1 x.2.1 x.2.2)) (fun x=>insAdd.news (insAdd x.1 x.2.1 x.2.2))
theorem insAdd.ok:CtOk (mkCx Tryz.prog S [] 0) 67 insAdd.ct:=ct_mk (C:=(mkCx Tryz.prog S tab_insCheck 0)) (mkCx_ok sigOk mixed tab_insCheck_ok 0) insAdd.dec_ok (fun x=>rfl) 4 (fun x hp=>(insAdd.nf_ok x.1 x.2.1 x.2.2 _).mpr (insAdd.key x.1 x.2.1 x.2.2 (hp _ (List.mem_singleton.2 rfl)) _ rfl))
def tab_insAdd:List (FuncId×Ct El):= (67,insAdd.ct):: tab_insCheck
theorem tab_insAdd_ok:TabOk Tryz.prog S tab_insAdd:=⟨insAdd.ok,by kernel_rfl,tab_insCheck_ok⟩
end Go.Aw.W
