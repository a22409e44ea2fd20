/- Contracts of the seat (printed by ct.py). -/
import Derived.Test.YtlnbhdcaebmffaaGreatXW10
set_option linter.unusedVariables false
set_option linter.unusedSimpArgs false
set_option maxRecDepth 20000
set_option maxHeartbeats 1000000
namespace Go.Aw.W
open Go Go.Aw Go.Proofs
attribute [local irreducible] evCode evFun evOps evDs evOne ctxK loopK loopB subC bodyC headS okH roundK
attribute [local irreducible] cCheck loopL
def procAnswer.res (r:Procs×(List Control)): AV El:=.tup [Procs.av (r.1), .sl 37 (r.2:List (El 37)) false]
def procAnswer.news (r:Procs×(List Control)): List (AObj El):= []
def procAnswer.L (e v:Procs×(List Control)): Prop:=procAnswer.res e=procAnswer.res v∧procAnswer.news e=procAnswer.news v
def procAnswer (s:Procs) (found:Bool) (salt:Int): Procs×(List Control):= cond (bif bif s.Role != 1 then true else s.Ended != 0 then true else s.Crypt != 1) ((s,[])) (cond (!found) ((({s with Other:=(-1),Crypt:=0}: Procs),[{Kind:=13,Update:={WinSize:=0,WinOffset:=0,Interval:=0,Latency:=0,Timeout:=0:Update},Map:=0,Instant:=0,Reason:=6,Rejected:=3,Salt:=0,Mark:=0,Features:=0,Version:=0,Length:=0:Control}])) ((({s with Salt:=salt,Crypt:=3}: Procs),[{Kind:=4,Update:={WinSize:=0,WinOffset:=0,Interval:=0,Latency:=0,Timeout:=0:Update},Map:=0,Instant:=0,Reason:=0,Rejected:=0,Salt:=salt,Mark:=0,Features:=0,Version:=0,Length:=0:Control},{Kind:=5,Update:={WinSize:=0,WinOffset:=0,Interval:=0,Latency:=0,Timeout:=0:Update},Map:=0,Instant:=0,Reason:=0,Rejected:=0,Salt:=0,Mark:=0,Features:=0,Version:=0,Length:=0:Control}])))
def procAnswer.dec (cs:List (AV El)): Option (Procs×Bool×Int):= popA Procs.dec cs fun a0 c0=>popB c0 fun a1 c1=>popI .u64 c1 fun a2 c2=>popE c2 (a0,a1,a2)
def procAnswer.enc (x:Procs×Bool×Int): List (AV El):= [Procs.av x.1, .v (.bool x.2.1), .v (.int .u64 x.2.2)]
theorem procAnswer.dec_ok : ∀cs x,procAnswer.dec cs=some x→Imp (S:=S) cs (procAnswer.enc x):= by
 intro cs x h
 unfold procAnswer.dec at h
 obtain ⟨a0,c0,h0,k0⟩:= popA_some (S:=S) Procs.dec_ok h
 obtain ⟨a1,c1,rfl,h1⟩:= popB_some (S:=S) h0
 obtain ⟨a2,c2,rfl,h2⟩:= popI_some (S:=S) h1
 obtain ⟨rfl,rfl⟩:= popE_some (S:=S) h2
 exact (k0 _ (.cons (.cons (.refl _))))
def procAnswer.nf (s:Procs) (found:Bool) (salt:Int) (v:Procs×(List Control)): Prop:=Ob (List.length s.Waiting*(120:Nat)≤(140737488355328:Nat))∧(Ob (List.length s.Pending*(64:Nat)≤(140737488355328:Nat))∧(Ob (o3 (!s.Role != 1))∧(Ob (o3 (!s.Role != 1))∧(Ob (o3 (!s.Role != 1))∧(Ob (o3 (!s.Role != 1))∧(Ob (o3 (!s.Role != 1))∧(Ob (on (s.Role != 1))∧(Ob (o3 (!bif s.Role != 1 then true else s.Ended != 0))∧(Ob (o3 (!bif s.Role != 1 then true else s.Ended != 0))∧(Ob (o3 (!bif s.Role != 1 then true else s.Ended != 0))∧(Ob (o3 (!bif s.Role != 1 then true else s.Ended != 0))∧(Ob (o3 (!bif s.Role != 1 then true else s.Ended != 0))∧(Ob (on (bif s.Role != 1 then true else s.Ended != 0))∧(cond (bif bif s.Role != 1 then true else s.Ended != 0 then true else s.Crypt != 1) (procAnswer.L ((s,[])) v) (cond (!found) (procAnswer.L ((({s with Other:=(-1),Crypt:=0}: Procs),[{Kind:=13,Update:={WinSize:=0,WinOffset:=0,Interval:=0,Latency:=0,Timeout:=0:Update},Map:=0,Instant:=0,Reason:=6,Rejected:=3,Salt:=0,Mark:=0,Features:=0,Version:=0,Length:=0:Control}])) v) (procAnswer.L ((({s with Salt:=salt,Crypt:=3}: Procs),[{Kind:=4,Update:={WinSize:=0,WinOffset:=0,Interval:=0,Latency:=0,Timeout:=0:Update},Map:=0,Instant:=0,Reason:=0,Rejected:=0,Salt:=salt,Mark:=0,Features:=0,Version:=0,Length:=0:Control},{Kind:=5,Update:={WinSize:=0,WinOffset:=0,Interval:=0,Latency:=0,Timeout:=0:Update},Map:=0,Instant:=0,Reason:=0,Rejected:=0,Salt:=0,Mark:=0,Features:=0,Version:=0,Length:=0:Control}])) v))))))))))))))))
theorem procAnswer.nf_ok (s:Procs) (found:Bool) (salt:Int) (v:Procs×(List Control)): evFun (mkCxN Tryz.prog S tab_procHandle 0 [61,62]) 4 18 [Procs.av s, .v (.bool found), .v (.int .u64 salt)] [] (fun r' H'=>Gives r' H' (procAnswer.res v) (procAnswer.news v))= procAnswer.nf s found salt v:=by kernel_rfl
theorem procAnswer.key (s:Procs) (found:Bool) (salt:Int) (hp:s.Waiting.length≤1000∧s.Pending.length≤1000) (v:Procs×(List Control)) (hv:v=procAnswer s found salt): procAnswer.nf s found salt v:=by
 unfold procAnswer at hv
 unfold procAnswer.nf
 refine ⟨⟨?_⟩, ?_⟩;rotate_left
 refine ⟨⟨?_⟩, ?_⟩;rotate_left
 iterate 5 refine ⟨⟨o3_ok _⟩, ?_⟩
 refine ⟨⟨on_ok _⟩, ?_⟩
 iterate 5 refine ⟨⟨o3_ok _⟩, ?_⟩
 refine ⟨⟨on_ok _⟩, ?_⟩
 revert hv;refine by_cond2 (fun hb hv=>?_) (fun hb hv=>?_)
 subst hv;exact ⟨rfl,rfl⟩
 revert hv;refine by_cond2 (fun hb hv=>?_) (fun hb hv=>?_)
 subst hv;exact ⟨rfl,rfl⟩
 subst hv;exact ⟨rfl,rfl⟩
 all_goals ((try clear hv);(try clear q1 q2);(try clear hk);(omega))
def procAnswer.ct:Ct El:=ctOf procAnswer.dec (fun x=>[x.1.Waiting.length≤1000∧x.1.Pending.length≤1000]) (fun x=>procAnswer.res (procAnswer x.1 x.2.1 x.2.2)) (fun x=>procAnswer.news (procAnswer x.1 x.2.1 x.2.2))
theorem procAnswer.ok:CtOk (mkCx Tryz.prog S [] 0) 18 procAnswer.ct:=ct_mk (C:=(mkCxN Tryz.prog S tab_procHandle 0 [61,62])) (mkCxN_ok sigOk mixed tab_procHandle_ok 0 [61,62]) procAnswer.dec_ok (fun x=>rfl) 4 (fun x hp=>(procAnswer.nf_ok x.1 x.2.1 x.2.2 _).mpr (procAnswer.key x.1 x.2.1 x.2.2 (hp _ (List.mem_singleton.2 rfl)) _ rfl))
def tab_procAnswer:List (FuncId×Ct El):= (18,procAnswer.ct):: tab_procHandle
theorem tab_procAnswer_ok:TabOk Tryz.prog S tab_procAnswer:=⟨procAnswer.ok,by kernel_rfl,tab_procHandle_ok⟩
def procQuiet.res (r:Bool): AV El:=.v (.bool (r))
def procQuiet.news (r:Bool): List (AObj El):= []
def procQuiet.L (e v:Bool): Prop:=procQuiet.res e=procQuiet.res v∧procQuiet.news e=procQuiet.news v
def procQuiet (s:Procs): Bool:=bif bif s.Crypt==(1:Int) then true else s.Crypt==(2:Int) then true else s.Crypt==(3:Int)
def procQuiet.dec (cs:List (AV El)): Option (Procs):= popA Procs.dec cs fun a0 c0=>popE c0 a0
def procQuiet.enc (x:Procs): List (AV El):= [Procs.av x]
theorem procQuiet.dec_ok : ∀cs x,procQuiet.dec cs=some x→Imp (S:=S) cs (procQuiet.enc x):= by
 intro cs x h
 unfold procQuiet.dec at h
 obtain ⟨a0,c0,h0,k0⟩:= popA_some (S:=S) Procs.dec_ok h
 obtain ⟨rfl,rfl⟩:= popE_some (S:=S) h0
 exact (k0 _ (.refl _))
def procQuiet.nf (s:Procs) (v:Bool): Prop:=Ob (o3 (!s.Crypt==1))∧(Ob (o3 (!s.Crypt==1))∧(Ob (on (s.Crypt==1))∧(Ob (o3 (!bif s.Crypt==1 then true else s.Crypt==2))∧(Ob (o3 (!bif s.Crypt==1 then true else s.Crypt==2))∧(Ob (on (bif s.Crypt==1 then true else s.Crypt==2))∧(procQuiet.L (bif bif s.Crypt==1 then true else s.Crypt==2 then true else s.Crypt==3) v))))))
theorem procQuiet.nf_ok (s:Procs) (v:Bool): evFun (mkCxN Tryz.prog S tab_procHandle 0 [61,62]) 4 25 [Procs.av s] [] (fun r' H'=>Gives r' H' (procQuiet.res v) (procQuiet.news v))= procQuiet.nf s v:=by kernel_rfl
theorem procQuiet.key (s:Procs) (v:Bool) (hv:v=procQuiet s): procQuiet.nf s v:=by
 unfold procQuiet at hv
 unfold procQuiet.nf
 iterate 2 refine ⟨⟨o3_ok _⟩, ?_⟩
 refine ⟨⟨on_ok _⟩, ?_⟩
 iterate 2 refine ⟨⟨o3_ok _⟩, ?_⟩
 refine ⟨⟨on_ok _⟩, ?_⟩
 subst hv;exact ⟨rfl,rfl⟩
def procQuiet.ct:Ct El:=ctOf procQuiet.dec (fun _=>[]) (fun x=>procQuiet.res (procQuiet x)) (fun x=>procQuiet.news (procQuiet x))
theorem procQuiet.ok:CtOk (mkCx Tryz.prog S [] 0) 25 procQuiet.ct:=ct_mk (C:=(mkCxN Tryz.prog S tab_procHandle 0 [61,62])) (mkCxN_ok sigOk mixed tab_procHandle_ok 0 [61,62]) procQuiet.dec_ok (fun x=>rfl) 4 (fun x _=>(procQuiet.nf_ok x _).mpr (procQuiet.key x _ rfl))
def tab_procQuiet:List (FuncId×Ct El):= (25,procQuiet.ct):: tab_procAnswer
theorem tab_procQuiet_ok:TabOk Tryz.prog S tab_procQuiet:=⟨procQuiet.ok,by kernel_rfl,tab_procAnswer_ok⟩
def procSent.res (r:Procs×(List Indication)): AV El:=.tup [Procs.av (r.1), .sl 57 (r.2:List (El 57)) false]
def procSent.news (r:Procs×(List Indication)): List (AObj El):= []
def procSent.L (e v:Procs×(List Indication)): Prop:=procSent.res e=procSent.res v∧procSent.news e=procSent.news v
def procSent (s:Procs) (c:Control): Procs×(List Indication):= cond (bif bif s.Ended==0 then s.Own==2 else false then c.Kind==2 else false) (cond (bif pChanges c.Kind then s.Own==c.Kind else false) ((({s with Told:=true,Ended:=22}: Procs),[])) ((({s with Ended:=22}: Procs),[]))) (cond (bif pChanges c.Kind then s.Own==c.Kind else false) ((({s with Told:=true}: Procs),[])) ((s,[])))
def procSent.dec (cs:List (AV El)): Option (Procs×Control):= popA Procs.dec cs fun a0 c0=>popA Control.dec c0 fun a1 c1=>popE c1 (a0,a1)
def procSent.enc (x:Procs×Control): List (AV El):= [Procs.av x.1,Control.av x.2]
theorem procSent.dec_ok : ∀cs x,procSent.dec cs=some x→Imp (S:=S) cs (procSent.enc x):= by
 intro cs x h
 unfold procSent.dec at h
 obtain ⟨a0,c0,h0,k0⟩:= popA_some (S:=S) Procs.dec_ok h
 obtain ⟨a1,c1,h1,k1⟩:= popA_some (S:=S) Control.dec_ok h0
 obtain ⟨rfl,rfl⟩:= popE_some (S:=S) h1
 exact (k0 _ (k1 _ (.refl _)))
def procSent.nf (s:Procs) (c:Control) (v:Procs×(List Indication)): Prop:=Ob (List.length s.Waiting*(120:Nat)≤(140737488355328:Nat))∧(Ob (List.length s.Pending*(64:Nat)≤(140737488355328:Nat))∧(Ob (o3 (s.Ended==0))∧(Ob (o3 (s.Ended==0))∧(Ob (o3 (s.Ended==0))∧(Ob (o3 (s.Ended==0))∧(Ob (o3 (s.Ended==0))∧(Ob (o2 (s.Ended==0))∧(Ob (o3 (bif s.Ended==0 then s.Own==2 else false))∧(Ob (o3 (bif s.Ended==0 then s.Own==2 else false))∧(Ob (o2 (bif s.Ended==0 then s.Own==2 else false))∧(cond (bif bif s.Ended==0 then s.Own==2 else false then c.Kind==2 else false) (Ob (o3 (pChanges c.Kind))∧(Ob (o3 (pChanges c.Kind))∧(Ob (o3 (pChanges c.Kind))∧(Ob (o3 (pChanges c.Kind))∧(Ob (o3 (pChanges c.Kind))∧(Ob (o3 (pChanges c.Kind))∧(Ob (o3 (pChanges c.Kind))∧(Ob (o2 (pChanges c.Kind))∧(cond (bif pChanges c.Kind then s.Own==c.Kind else false) (procSent.L ((({s with Told:=true,Ended:=22}: Procs),[])) v) (procSent.L ((({s with Ended:=22}: Procs),[])) v)))))))))) (Ob (o3 (pChanges c.Kind))∧(Ob (o3 (pChanges c.Kind))∧(Ob (o3 (pChanges c.Kind))∧(Ob (o3 (pChanges c.Kind))∧(Ob (o3 (pChanges c.Kind))∧(Ob (o3 (pChanges c.Kind))∧(Ob (o3 (pChanges c.Kind))∧(Ob (o2 (pChanges c.Kind))∧(cond (bif pChanges c.Kind then s.Own==c.Kind else false) (procSent.L ((({s with Told:=true}: Procs),[])) v) (procSent.L ((s,[])) v)))))))))))))))))))))
theorem procSent.nf_ok (s:Procs) (c:Control) (v:Procs×(List Indication)): evFun (mkCxN Tryz.prog S tab_procHandle 0 [61,62]) 4 20 [Procs.av s,Control.av c] [] (fun r' H'=>Gives r' H' (procSent.res v) (procSent.news v))= procSent.nf s c v:=by kernel_rfl
theorem procSent.key (s:Procs) (c:Control) (hp:s.Waiting.length≤1000∧s.Pending.length≤1000) (v:Procs×(List Indication)) (hv:v=procSent s c): procSent.nf s c v:=by
 unfold procSent at hv
 unfold procSent.nf
 refine ⟨⟨?_⟩, ?_⟩;rotate_left
 refine ⟨⟨?_⟩, ?_⟩;rotate_left
 iterate 5 refine ⟨⟨o3_ok _⟩, ?_⟩
 refine ⟨⟨o2_ok _⟩, ?_⟩
 iterate 2 refine ⟨⟨o3_ok _⟩, ?_⟩
 refine ⟨⟨o2_ok _⟩, ?_⟩
 revert hv;refine by_cond2 (fun hb hv=>?_) (fun hb hv=>?_)
 iterate 7 refine ⟨⟨o3_ok _⟩, ?_⟩
 refine ⟨⟨o2_ok _⟩, ?_⟩
 revert hv;refine by_cond2 (fun hb hv=>?_) (fun hb hv=>?_)
 subst hv;exact ⟨rfl,rfl⟩
 subst hv;exact ⟨rfl,rfl⟩
 iterate 7 refine ⟨⟨o3_ok _⟩, ?_⟩
 refine ⟨⟨o2_ok _⟩, ?_⟩
 revert hv;refine by_cond2 (fun hb hv=>?_) (fun hb hv=>?_)
 subst hv;exact ⟨rfl,rfl⟩
 subst hv;exact ⟨rfl,rfl⟩
 all_goals ((try clear hv);(try clear q1 q2);(try clear hk);(omega))
def procSent.ct:Ct El:=ctOf procSent.dec (fun x=>[x.1.Waiting.length≤1000∧x.1.Pending.length≤1000]) (fun x=>procSent.res (procSent x.1 x.2)) (fun x=>procSent.news (procSent x.1 x.2))
theorem procSent.ok:CtOk (mkCx Tryz.prog S [] 0) 20 procSent.ct:=ct_mk (C:=(mkCxN Tryz.prog S tab_procHandle 0 [61,62])) (mkCxN_ok sigOk mixed tab_procHandle_ok 0 [61,62]) procSent.dec_ok (fun x=>rfl) 4 (fun x hp=>(procSent.nf_ok x.1 x.2 _).mpr (procSent.key x.1 x.2 (hp _ (List.mem_singleton.2 rfl)) _ rfl))
def tab_procSent:List (FuncId×Ct El):= (20,procSent.ct):: tab_procQuiet
theorem tab_procSent_ok:TabOk Tryz.prog S tab_procSent:=⟨procSent.ok,by kernel_rfl,tab_procQuiet_ok⟩
end Go.Aw.W
