/- Contracts of the seat (printed by ct.py). -/
import Derived.Test.YtlnbhdcaebmffaaGreatXW19
set_option linter.unusedVariables false
set_option linter.unusedSimpArgs false
set_option maxRecDepth 20000
set_option maxHeartbeats 1000000
namespace Go.Aw.W
open Go Go.Aw Go.Proofs
attribute [local irreducible] evCode evFun evOps evDs evOne ctxK loopK loopB subC bodyC headS okH roundK
attribute [local irreducible] cCheck
def r28one.res (r:(List Control)): AV El:=.sl 37 (r:List (El 37)) false
def r28one.news (r:(List Control)): List (AObj El):= []
def r28one.L (e v:(List Control)): Prop:=r28one.res e=r28one.res v∧r28one.news e=r28one.news v
def r28one (c:Control): (List Control):= [c]
def r28one.dec (cs:List (AV El)): Option (Control):= popA Control.dec cs fun a0 c0=>popE c0 a0
def r28one.enc (x:Control): List (AV El):= [Control.av x]
theorem r28one.dec_ok : ∀cs x,r28one.dec cs=some x→Imp (S:=S) cs (r28one.enc x):= by
 intro cs x h
 unfold r28one.dec at h
 obtain ⟨a0,c0,h0,k0⟩:= popA_some (S:=S) Control.dec_ok h
 obtain ⟨rfl,rfl⟩:= popE_some (S:=S) h0
 exact (k0 _ (.refl _))
def r28one.nf (c:Control) (v:(List Control)): Prop:=r28one.L ([c]) v
theorem r28one.nf_ok (c:Control) (v:(List Control)): evFun (mkCx Tryz.prog S tab_r28allowed 0) 4 48 [Control.av c] [] (fun r' H'=>Gives r' H' (r28one.res v) (r28one.news v))= r28one.nf c v:=by kernel_rfl
theorem r28one.key (c:Control) (v:(List Control)) (hv:v=r28one c): r28one.nf c v:=by
 unfold r28one at hv
 unfold r28one.nf
 subst hv;exact ⟨rfl,rfl⟩
def r28one.ct:Ct El:=ctOf r28one.dec (fun _=>[]) (fun x=>r28one.res (r28one x)) (fun x=>r28one.news (r28one x))
theorem r28one.ok:CtOk (mkCx Tryz.prog S [] 0) 48 r28one.ct:=ct_mk (C:=(mkCx Tryz.prog S tab_r28allowed 0)) (mkCx_ok sigOk mixed tab_r28allowed_ok 0) r28one.dec_ok (fun x=>rfl) 4 (fun x _=>(r28one.nf_ok x _).mpr (r28one.key x _ rfl))
def tab_r28one:List (FuncId×Ct El):= (48,r28one.ct):: tab_r28allowed
theorem tab_r28one_ok:TabOk Tryz.prog S tab_r28one:=⟨r28one.ok,by kernel_rfl,tab_r28allowed_ok⟩
def r28tell.res (r:(List Indication)): AV El:=.sl 57 (r:List (El 57)) false
def r28tell.news (r:(List Indication)): List (AObj El):= []
def r28tell.L (e v:(List Indication)): Prop:=r28tell.res e=r28tell.res v∧r28tell.news e=r28tell.news v
def r28tell (kind:Int) (number:Int): (List Indication):= [{Kind:=kind,Event:=0,Packet:={LLID:=0,Payload:=[]: Packet},Change:={Kind:=0,Instant:=0,Update:={WinSize:=0,WinOffset:=0,Interval:=0,Latency:=0,Timeout:=0:Update},Map:=0:Change},Number:=number,Update:={WinSize:=0,WinOffset:=0,Interval:=0,Latency:=0,Timeout:=0:Update}: Indication}]
def r28tell.dec (cs:List (AV El)): Option (Int×Int):= popI .i64 cs fun a0 c0=>popI .u64 c0 fun a1 c1=>popE c1 (a0,a1)
def r28tell.enc (x:Int×Int): List (AV El):= [.v (.int .i64 x.1), .v (.int .u64 x.2)]
theorem r28tell.dec_ok : ∀cs x,r28tell.dec cs=some x→Imp (S:=S) cs (r28tell.enc x):= by
 intro cs x h
 unfold r28tell.dec at h
 obtain ⟨a0,c0,rfl,h0⟩:= popI_some (S:=S) h
 obtain ⟨a1,c1,rfl,h1⟩:= popI_some (S:=S) h0
 obtain ⟨rfl,rfl⟩:= popE_some (S:=S) h1
 exact (.cons (.cons (.refl _)))
def r28tell.nf (kind:Int) (number:Int) (v:(List Indication)): Prop:=r28tell.L ([{Kind:=kind,Event:=0,Packet:={LLID:=0,Payload:=[]: Packet},Change:={Kind:=0,Instant:=0,Update:={WinSize:=0,WinOffset:=0,Interval:=0,Latency:=0,Timeout:=0:Update},Map:=0:Change},Number:=number,Update:={WinSize:=0,WinOffset:=0,Interval:=0,Latency:=0,Timeout:=0:Update}: Indication}]) v
theorem r28tell.nf_ok (kind:Int) (number:Int) (v:(List Indication)): evFun (mkCx Tryz.prog S tab_r28allowed 0) 4 90 [.v (.int .i64 kind), .v (.int .u64 number)] [] (fun r' H'=>Gives r' H' (r28tell.res v) (r28tell.news v))= r28tell.nf kind number v:=by kernel_rfl
theorem r28tell.key (kind:Int) (number:Int) (v:(List Indication)) (hv:v=r28tell kind number): r28tell.nf kind number v:=by
 unfold r28tell at hv
 unfold r28tell.nf
 subst hv;exact ⟨rfl,rfl⟩
def r28tell.ct:Ct El:=ctOf r28tell.dec (fun _=>[]) (fun x=>r28tell.res (r28tell x.1 x.2)) (fun x=>r28tell.news (r28tell x.1 x.2))
theorem r28tell.ok:CtOk (mkCx Tryz.prog S [] 0) 90 r28tell.ct:=ct_mk (C:=(mkCx Tryz.prog S tab_r28allowed 0)) (mkCx_ok sigOk mixed tab_r28allowed_ok 0) r28tell.dec_ok (fun x=>rfl) 4 (fun x _=>(r28tell.nf_ok x.1 x.2 _).mpr (r28tell.key x.1 x.2 _ rfl))
def tab_r28tell:List (FuncId×Ct El):= (90,r28tell.ct):: tab_r28one
theorem tab_r28tell_ok:TabOk Tryz.prog S tab_r28tell:=⟨r28tell.ok,by kernel_rfl,tab_r28one_ok⟩
def r28Sent.res (r:Procs×(List Indication)): AV El:=.tup [Procs.av (r.1), .sl 57 (r.2:List (El 57)) false]
def r28Sent.news (r:Procs×(List Indication)): List (AObj El):= []
def r28Sent.L (e v:Procs×(List Indication)): Prop:=r28Sent.res e=r28Sent.res v∧r28Sent.news e=r28Sent.news v
def r28Sent (s:Procs) (c:Control): Procs×(List Indication):= cond (bif bif s.Ended==0 then s.Own==2 else false then c.Kind==2 else false) (cond (bif r28timed c.Kind then s.Own==c.Kind else false) ((({s with Told:=true,Ended:=22}: Procs),[])) ((({s with Ended:=22}: Procs),[]))) (cond (bif r28timed c.Kind then s.Own==c.Kind else false) ((({s with Told:=true}: Procs),[])) ((s,[])))
def r28Sent.dec (cs:List (AV El)): Option (Procs×Control):= popA Procs.dec cs fun a0 c0=>popA Control.dec c0 fun a1 c1=>popE c1 (a0,a1)
def r28Sent.enc (x:Procs×Control): List (AV El):= [Procs.av x.1,Control.av x.2]
theorem r28Sent.dec_ok : ∀cs x,r28Sent.dec cs=some x→Imp (S:=S) cs (r28Sent.enc x):= by
 intro cs x h
 unfold r28Sent.dec at h
 obtain ⟨a0,c0,h0,k0⟩:= popA_some (S:=S) Procs.dec_ok h
 obtain ⟨a1,c1,h1,k1⟩:= popA_some (S:=S) Control.dec_ok h0
 obtain ⟨rfl,rfl⟩:= popE_some (S:=S) h1
 exact (k0 _ (k1 _ (.refl _)))
def r28Sent.nf (s:Procs) (c:Control) (v:Procs×(List Indication)): Prop:=Ob (o3 (s.Ended==0))∧(Ob (o3 (s.Ended==0))∧(Ob (o2 (s.Ended==0))∧(Ob (o3 (bif s.Ended==0 then s.Own==2 else false))∧(Ob (o3 (bif s.Ended==0 then s.Own==2 else false))∧(Ob (o2 (bif s.Ended==0 then s.Own==2 else false))∧(cond (bif bif s.Ended==0 then s.Own==2 else false then c.Kind==2 else false) (Ob (o3 (r28timed c.Kind))∧(Ob (o3 (r28timed c.Kind))∧(Ob (o3 (r28timed c.Kind))∧(Ob (o3 (r28timed c.Kind))∧(Ob (o2 (r28timed c.Kind))∧(cond (bif r28timed c.Kind then s.Own==c.Kind else false) (r28Sent.L ((({s with Told:=true,Ended:=22}: Procs),[])) v) (r28Sent.L ((({s with Ended:=22}: Procs),[])) v))))))) (Ob (o3 (r28timed c.Kind))∧(Ob (o3 (r28timed c.Kind))∧(Ob (o3 (r28timed c.Kind))∧(Ob (o3 (r28timed c.Kind))∧(Ob (o2 (r28timed c.Kind))∧(cond (bif r28timed c.Kind then s.Own==c.Kind else false) (r28Sent.L ((({s with Told:=true}: Procs),[])) v) (r28Sent.L ((s,[])) v)))))))))))))
theorem r28Sent.nf_ok (s:Procs) (c:Control) (v:Procs×(List Indication)): evFun (mkCx Tryz.prog S tab_r28tell 0) 4 21 [Procs.av s,Control.av c] [] (fun r' H'=>Gives r' H' (r28Sent.res v) (r28Sent.news v))= r28Sent.nf s c v:=by kernel_rfl
theorem r28Sent.key (s:Procs) (c:Control) (v:Procs×(List Indication)) (hv:v=r28Sent s c): r28Sent.nf s c v:=by
 unfold r28Sent at hv
 unfold r28Sent.nf
 iterate 2 refine ⟨⟨o3_ok _⟩, ?_⟩
 refine ⟨⟨o2_ok _⟩, ?_⟩
 iterate 2 refine ⟨⟨o3_ok _⟩, ?_⟩
 refine ⟨⟨o2_ok _⟩, ?_⟩
 revert hv;refine by_cond2 (fun hb hv=>?_) (fun hb hv=>?_)
 ·refine ⟨⟨o3_ok _⟩, ?_⟩
  iterate 3 refine ⟨⟨o3_ok _⟩, ?_⟩
  refine ⟨⟨o2_ok _⟩, ?_⟩
  revert hv;refine by_cond2 (fun hb hv=>?_) (fun hb hv=>?_)
  ·subst hv;exact ⟨rfl,rfl⟩
  ·subst hv;exact ⟨rfl,rfl⟩
 ·refine ⟨⟨o3_ok _⟩, ?_⟩
  iterate 3 refine ⟨⟨o3_ok _⟩, ?_⟩
  refine ⟨⟨o2_ok _⟩, ?_⟩
  revert hv;refine by_cond2 (fun hb hv=>?_) (fun hb hv=>?_)
  ·subst hv;exact ⟨rfl,rfl⟩
  ·subst hv;exact ⟨rfl,rfl⟩
def r28Sent.ct:Ct El:=ctOf r28Sent.dec (fun _=>[]) (fun x=>r28Sent.res (r28Sent x.1 x.2)) (fun x=>r28Sent.news (r28Sent x.1 x.2))
theorem r28Sent.ok:CtOk (mkCx Tryz.prog S [] 0) 21 r28Sent.ct:=ct_mk (C:=(mkCx Tryz.prog S tab_r28tell 0)) (mkCx_ok sigOk mixed tab_r28tell_ok 0) r28Sent.dec_ok (fun x=>rfl) 4 (fun x _=>(r28Sent.nf_ok x.1 x.2 _).mpr (r28Sent.key x.1 x.2 _ rfl))
def tab_r28Sent:List (FuncId×Ct El):= (21,r28Sent.ct):: tab_r28tell
theorem tab_r28Sent_ok:TabOk Tryz.prog S tab_r28Sent:=⟨r28Sent.ok,by kernel_rfl,tab_r28tell_ok⟩
def r28Answer.res (r:Procs×(List Control)): AV El:=.tup [Procs.av (r.1), .sl 37 (r.2:List (El 37)) false]
def r28Answer.news (r:Procs×(List Control)): List (AObj El):= []
def r28Answer.L (e v:Procs×(List Control)): Prop:=r28Answer.res e=r28Answer.res v∧r28Answer.news e=r28Answer.news v
def r28Answer (s:Procs) (found:Bool) (salt:Int): Procs×(List Control):= cond (bif bif s.Role != 1 then true else s.Ended != 0 then true else s.Crypt != 1) ((s,[])) (cond (!found) ((({s with Other:=(-1),Crypt:=0}: Procs),r28one {Kind:=13,Update:={WinSize:=0,WinOffset:=0,Interval:=0,Latency:=0,Timeout:=0:Update},Map:=0,Instant:=0,Reason:=6,Rejected:=3,Salt:=0,Mark:=0,Features:=0,Version:=0,Length:=0:Control})) ((({s with Salt:=salt,Crypt:=3}: Procs),[{Kind:=4,Update:={WinSize:=0,WinOffset:=0,Interval:=0,Latency:=0,Timeout:=0:Update},Map:=0,Instant:=0,Reason:=0,Rejected:=0,Salt:=salt,Mark:=0,Features:=0,Version:=0,Length:=0:Control},{Kind:=5,Update:={WinSize:=0,WinOffset:=0,Interval:=0,Latency:=0,Timeout:=0:Update},Map:=0,Instant:=0,Reason:=0,Rejected:=0,Salt:=0,Mark:=0,Features:=0,Version:=0,Length:=0:Control}])))
def r28Answer.dec (cs:List (AV El)): Option (Procs×Bool×Int):= popA Procs.dec cs fun a0 c0=>popB c0 fun a1 c1=>popI .u64 c1 fun a2 c2=>popE c2 (a0,a1,a2)
def r28Answer.enc (x:Procs×Bool×Int): List (AV El):= [Procs.av x.1, .v (.bool x.2.1), .v (.int .u64 x.2.2)]
theorem r28Answer.dec_ok : ∀cs x,r28Answer.dec cs=some x→Imp (S:=S) cs (r28Answer.enc x):= by
 intro cs x h
 unfold r28Answer.dec at h
 obtain ⟨a0,c0,h0,k0⟩:= popA_some (S:=S) Procs.dec_ok h
 obtain ⟨a1,c1,rfl,h1⟩:= popB_some (S:=S) h0
 obtain ⟨a2,c2,rfl,h2⟩:= popI_some (S:=S) h1
 obtain ⟨rfl,rfl⟩:= popE_some (S:=S) h2
 exact (k0 _ (.cons (.cons (.refl _))))
def r28Answer.nf (s:Procs) (found:Bool) (salt:Int) (v:Procs×(List Control)): Prop:=Ob (o3 (!s.Role != 1))∧(Ob (o3 (!s.Role != 1))∧(Ob (on (s.Role != 1))∧(Ob (o3 (!bif s.Role != 1 then true else s.Ended != 0))∧(Ob (o3 (!bif s.Role != 1 then true else s.Ended != 0))∧(Ob (on (bif s.Role != 1 then true else s.Ended != 0))∧(cond (bif bif s.Role != 1 then true else s.Ended != 0 then true else s.Crypt != 1) (r28Answer.L ((s,[])) v) (cond (!found) (r28Answer.L ((({s with Other:=(-1),Crypt:=0}: Procs),r28one {Kind:=13,Update:={WinSize:=0,WinOffset:=0,Interval:=0,Latency:=0,Timeout:=0:Update},Map:=0,Instant:=0,Reason:=6,Rejected:=3,Salt:=0,Mark:=0,Features:=0,Version:=0,Length:=0:Control})) v) (r28Answer.L ((({s with Salt:=salt,Crypt:=3}: Procs),[{Kind:=4,Update:={WinSize:=0,WinOffset:=0,Interval:=0,Latency:=0,Timeout:=0:Update},Map:=0,Instant:=0,Reason:=0,Rejected:=0,Salt:=salt,Mark:=0,Features:=0,Version:=0,Length:=0:Control},{Kind:=5,Update:={WinSize:=0,WinOffset:=0,Interval:=0,Latency:=0,Timeout:=0:Update},Map:=0,Instant:=0,Reason:=0,Rejected:=0,Salt:=0,Mark:=0,Features:=0,Version:=0,Length:=0:Control}])) v))))))))
theorem r28Answer.nf_ok (s:Procs) (found:Bool) (salt:Int) (v:Procs×(List Control)): evFun (mkCx Tryz.prog S tab_r28tell 0) 4 19 [Procs.av s, .v (.bool found), .v (.int .u64 salt)] [] (fun r' H'=>Gives r' H' (r28Answer.res v) (r28Answer.news v))= r28Answer.nf s found salt v:=by kernel_rfl
theorem r28Answer.key (s:Procs) (found:Bool) (salt:Int) (v:Procs×(List Control)) (hv:v=r28Answer s found salt): r28Answer.nf s found salt v:=by
 unfold r28Answer at hv
 unfold r28Answer.nf
 iterate 2 refine ⟨⟨o3_ok _⟩, ?_⟩
 refine ⟨⟨on_ok _⟩, ?_⟩
 iterate 2 refine ⟨⟨o3_ok _⟩, ?_⟩
 refine ⟨⟨on_ok _⟩, ?_⟩
 revert hv;refine by_cond2 (fun hb hv=>?_) (fun hb hv=>?_)
 ·subst hv;exact ⟨rfl,rfl⟩
 ·revert hv;refine by_cond2 (fun hb hv=>?_) (fun hb hv=>?_)
  ·subst hv;exact ⟨rfl,rfl⟩
  ·subst hv;exact ⟨rfl,rfl⟩
def r28Answer.ct:Ct El:=ctOf r28Answer.dec (fun _=>[]) (fun x=>r28Answer.res (r28Answer x.1 x.2.1 x.2.2)) (fun x=>r28Answer.news (r28Answer x.1 x.2.1 x.2.2))
theorem r28Answer.ok:CtOk (mkCx Tryz.prog S [] 0) 19 r28Answer.ct:=ct_mk (C:=(mkCx Tryz.prog S tab_r28tell 0)) (mkCx_ok sigOk mixed tab_r28tell_ok 0) r28Answer.dec_ok (fun x=>rfl) 4 (fun x _=>(r28Answer.nf_ok x.1 x.2.1 x.2.2 _).mpr (r28Answer.key x.1 x.2.1 x.2.2 _ rfl))
def tab_r28Answer:List (FuncId×Ct El):= (19,r28Answer.ct):: tab_r28Sent
theorem tab_r28Answer_ok:TabOk Tryz.prog S tab_r28Answer:=⟨r28Answer.ok,by kernel_rfl,tab_r28Sent_ok⟩
def r28Start.res (r:Procs×(List Control)×Int): AV El:=.tup [Procs.av (r.1), .sl 37 (r.2.1:List (El 37)) false, .v (.int .i64 (r.2.2))]
def r28Start.news (r:Procs×(List Control)×Int): List (AObj El):= []
def r28Start.L (e v:Procs×(List Control)×Int): Prop:=r28Start.res e=r28Start.res v∧r28Start.news e=r28Start.news v
def r28Start (s:Procs) (c:Control) (event:Int) (now:Int): Procs×(List Control)×Int:=cond (!r28isRequest c.Kind) ((s,[],12)) (cond (r26Check (r28filled s c) != 0) ((s,[],r26Check (r28filled s c))) (cond (!r28allowed s (r28filled s c).Kind) ((s,[],9)) (cond (bif (r28filled s c).Kind==12 then s.VersionTx else false) ((s,[],0)) (cond ((r28filled s c).Kind==2) (((r28begin {Role:=s.Role,Own:=s.Own,Since:=s.Since,Waiting:=[],Other:=s.Other,OtherTime:=s.OtherTime,Pending:=s.Pending,Told:=s.Told,Features:=s.Features,Common:=s.Common,Known:=s.Known,VersionTx:=s.VersionTx,Version:=s.Version,Length:=s.Length,Limit:=s.Limit,Salt:=s.Salt,Peer:=s.Peer,Mark:=s.Mark,Crypt:=s.Crypt,Ended:=s.Ended:Procs} (r28filled s c) event now).fst,[(r28begin {Role:=s.Role,Own:=s.Own,Since:=s.Since,Waiting:=[],Other:=s.Other,OtherTime:=s.OtherTime,Pending:=s.Pending,Told:=s.Told,Features:=s.Features,Common:=s.Common,Known:=s.Known,VersionTx:=s.VersionTx,Version:=s.Version,Length:=s.Length,Limit:=s.Limit,Salt:=s.Salt,Peer:=s.Peer,Mark:=s.Mark,Crypt:=s.Crypt,Ended:=s.Ended:Procs} (r28filled s c) event now).snd],0)) (cond (bif bif decide (0≤s.Own) then true else decide (0 < (↑(List.length s.Waiting): Int)) then true else !r28can s (r28filled s c)) (cond (decide (8≤(↑(List.length s.Waiting): Int))) ((s,[],8)) ((({s with Waiting:=[]++ s.Waiting ++ [r28filled s c]}: Procs),[],0))) (((r28begin s (r28filled s c) event now).fst,[(r28begin s (r28filled s c) event now).snd],0)))))))
def r28Start.dec (cs:List (AV El)): Option (Procs×Control×Int×Int):= popA Procs.dec cs fun a0 c0=>popA Control.dec c0 fun a1 c1=>popI .u16 c1 fun a2 c2=>popI .i64 c2 fun a3 c3=>popE c3 (a0,a1,a2,a3)
def r28Start.enc (x:Procs×Control×Int×Int): List (AV El):= [Procs.av x.1,Control.av x.2.1, .v (.int .u16 x.2.2.1), .v (.int .i64 x.2.2.2)]
theorem r28Start.dec_ok : ∀cs x,r28Start.dec cs=some x→Imp (S:=S) cs (r28Start.enc x):= by
 intro cs x h
 unfold r28Start.dec at h
 obtain ⟨a0,c0,h0,k0⟩:= popA_some (S:=S) Procs.dec_ok h
 obtain ⟨a1,c1,h1,k1⟩:= popA_some (S:=S) Control.dec_ok h0
 obtain ⟨a2,c2,rfl,h2⟩:= popI_some (S:=S) h1
 obtain ⟨a3,c3,rfl,h3⟩:= popI_some (S:=S) h2
 obtain ⟨rfl,rfl⟩:= popE_some (S:=S) h3
 exact (k0 _ (k1 _ (.cons (.cons (.refl _)))))
def r28Start.q0 (s:Procs) (c:Control) (event:Int) (now:Int) (v:Procs×(List Control)×Int): Prop:=Ob (((0:Nat)+ List.length s.Waiting)* (120:Nat)≤(140737488355328:Nat))∧(Ob ((List.length ([]++ s.Waiting)+ List.length [r28filled s c])* (120:Nat)≤(140737488355328:Nat))∧(r28Start.L ((({s with Waiting:=[]++ s.Waiting ++ [r28filled s c]}: Procs),[],0)) v))
theorem r28Start.qq0 (s:Procs) (c:Control) (event:Int) (now:Int) (v:Procs×(List Control)×Int) (h0:r28Start.q0 s c event now v): ((((r28Start.q0 s c event now v∧(r28Start.q0 s c event now v∧r28Start.q0 s c event now v))∧((r28Start.q0 s c event now v∧r28Start.q0 s c event now v)∧r28Start.q0 s c event now v))∧(((r28Start.q0 s c event now v∧r28Start.q0 s c event now v)∧r28Start.q0 s c event now v)∧r28Start.q0 s c event now v))∧((((r28Start.q0 s c event now v∧(r28Start.q0 s c event now v∧r28Start.q0 s c event now v))∧((r28Start.q0 s c event now v∧r28Start.q0 s c event now v)∧r28Start.q0 s c event now v))∧(((r28Start.q0 s c event now v∧(r28Start.q0 s c event now v∧r28Start.q0 s c event now v))∧((r28Start.q0 s c event now v∧r28Start.q0 s c event now v)∧r28Start.q0 s c event now v))∧(((r28Start.q0 s c event now v∧r28Start.q0 s c event now v)∧r28Start.q0 s c event now v)∧(((r28Start.q0 s c event now v∧r28Start.q0 s c event now v)∧r28Start.q0 s c event now v)∧(r28Start.q0 s c event now v∧r28Start.q0 s c event now v)))))∧((((r28Start.q0 s c event now v∧r28Start.q0 s c event now v)∧r28Start.q0 s c event now v)∧r28Start.q0 s c event now v)∧((((r28Start.q0 s c event now v∧r28Start.q0 s c event now v)∧r28Start.q0 s c event now v)∧(((r28Start.q0 s c event now v∧r28Start.q0 s c event now v)∧r28Start.q0 s c event now v)∧(r28Start.q0 s c event now v∧r28Start.q0 s c event now v)))∧(r28Start.q0 s c event now v∧(r28Start.q0 s c event now v∧r28Start.q0 s c event now v)))))):= ⟨⟨⟨⟨h0,⟨h0,h0⟩⟩,⟨⟨h0,h0⟩,h0⟩⟩,⟨⟨⟨h0,h0⟩,h0⟩,h0⟩⟩,⟨⟨⟨⟨h0,⟨h0,h0⟩⟩,⟨⟨h0,h0⟩,h0⟩⟩,⟨⟨⟨h0,⟨h0,h0⟩⟩,⟨⟨h0,h0⟩,h0⟩⟩,⟨⟨⟨h0,h0⟩,h0⟩,⟨⟨⟨h0,h0⟩,h0⟩,⟨h0,h0⟩⟩⟩⟩⟩,⟨⟨⟨⟨h0,h0⟩,h0⟩,h0⟩,⟨⟨⟨⟨h0,h0⟩,h0⟩,⟨⟨⟨h0,h0⟩,h0⟩,⟨h0,h0⟩⟩⟩,⟨h0,⟨h0,h0⟩⟩⟩⟩⟩⟩
def r28Start.nf (s:Procs) (c:Control) (event:Int) (now:Int) (v:Procs×(List Control)×Int): Prop:=cond (!r28isRequest c.Kind) (r28Start.L ((s,[],12)) v) (cond (r26Check (r28filled s c) != 0) (r28Start.L ((s,[],r26Check (r28filled s c))) v) (Ob (List.length s.Waiting≤(1000:Nat))∧(cond (!r28allowed s (r28filled s c).Kind) (r28Start.L ((s,[],9)) v) (Ob (o3 ((r28filled s c).Kind==12))∧(Ob (o2 ((r28filled s c).Kind==12))∧(cond (bif (r28filled s c).Kind==12 then s.VersionTx else false) (r28Start.L ((s,[],0)) v) (cond ((r28filled s c).Kind==2) (Ob (List.length s.Pending≤(1000:Nat))∧(r28Start.L (((r28begin {Role:=s.Role,Own:=s.Own,Since:=s.Since,Waiting:=[],Other:=s.Other,OtherTime:=s.OtherTime,Pending:=s.Pending,Told:=s.Told,Features:=s.Features,Common:=s.Common,Known:=s.Known,VersionTx:=s.VersionTx,Version:=s.Version,Length:=s.Length,Limit:=s.Limit,Salt:=s.Salt,Peer:=s.Peer,Mark:=s.Mark,Crypt:=s.Crypt,Ended:=s.Ended:Procs} (r28filled s c) event now).fst,[(r28begin {Role:=s.Role,Own:=s.Own,Since:=s.Since,Waiting:=[],Other:=s.Other,OtherTime:=s.OtherTime,Pending:=s.Pending,Told:=s.Told,Features:=s.Features,Common:=s.Common,Known:=s.Known,VersionTx:=s.VersionTx,Version:=s.Version,Length:=s.Length,Limit:=s.Limit,Salt:=s.Salt,Peer:=s.Peer,Mark:=s.Mark,Crypt:=s.Crypt,Ended:=s.Ended:Procs} (r28filled s c) event now).snd],0)) v)) (Ob (o3 (!decide (0≤s.Own)))∧(Ob (o3 (!decide (0≤s.Own)))∧(Ob (o3 (!decide (0≤s.Own)))∧(Ob (on (decide (0≤s.Own)))∧(Ob (o3 (!bif decide (0≤s.Own) then true else decide (0 < (↑(List.length s.Waiting): Int))))∧(Ob (o3 (!bif decide (0≤s.Own) then true else decide (0 < (↑(List.length s.Waiting): Int))))∧(Ob (o3 (!bif decide (0≤s.Own) then true else decide (0 < (↑(List.length s.Waiting): Int))))∧(Ob (on (bif decide (0≤s.Own) then true else decide (0 < (↑(List.length s.Waiting): Int))))∧(cond (bif bif decide (0≤s.Own) then true else decide (0 < (↑(List.length s.Waiting): Int)) then true else !r28can s (r28filled s c)) ((List.length s.Waiting≤(9223372036854775807:Nat))→(cond (decide (8≤(↑(List.length s.Waiting): Int))) (r28Start.L ((s,[],8)) v) (((((r28Start.q0 s c event now v∧(r28Start.q0 s c event now v∧r28Start.q0 s c event now v))∧((r28Start.q0 s c event now v∧r28Start.q0 s c event now v)∧r28Start.q0 s c event now v))∧(((r28Start.q0 s c event now v∧r28Start.q0 s c event now v)∧r28Start.q0 s c event now v)∧r28Start.q0 s c event now v))∧((((r28Start.q0 s c event now v∧(r28Start.q0 s c event now v∧r28Start.q0 s c event now v))∧((r28Start.q0 s c event now v∧r28Start.q0 s c event now v)∧r28Start.q0 s c event now v))∧(((r28Start.q0 s c event now v∧(r28Start.q0 s c event now v∧r28Start.q0 s c event now v))∧((r28Start.q0 s c event now v∧r28Start.q0 s c event now v)∧r28Start.q0 s c event now v))∧(((r28Start.q0 s c event now v∧r28Start.q0 s c event now v)∧r28Start.q0 s c event now v)∧(((r28Start.q0 s c event now v∧r28Start.q0 s c event now v)∧r28Start.q0 s c event now v)∧(r28Start.q0 s c event now v∧r28Start.q0 s c event now v)))))∧((((r28Start.q0 s c event now v∧r28Start.q0 s c event now v)∧r28Start.q0 s c event now v)∧r28Start.q0 s c event now v)∧((((r28Start.q0 s c event now v∧r28Start.q0 s c event now v)∧r28Start.q0 s c event now v)∧(((r28Start.q0 s c event now v∧r28Start.q0 s c event now v)∧r28Start.q0 s c event now v)∧(r28Start.q0 s c event now v∧r28Start.q0 s c event now v)))∧(r28Start.q0 s c event now v∧(r28Start.q0 s c event now v∧r28Start.q0 s c event now v))))))))) (Ob (List.length s.Pending≤(1000:Nat))∧(r28Start.L (((r28begin s (r28filled s c) event now).fst,[(r28begin s (r28filled s c) event now).snd],0)) v))))))))))))))))))
theorem r28Start.nf_ok (s:Procs) (c:Control) (event:Int) (now:Int) (v:Procs×(List Control)×Int): evFun (mkCxY Tryz.prog S tab_r28Answer 0) 4 11 [Procs.av s,Control.av c, .v (.int .u16 event), .v (.int .i64 now)] [] (fun r' H'=>Gives r' H' (r28Start.res v) (r28Start.news v))= r28Start.nf s c event now v:=by kernel_rfl
theorem r28Start.key (s:Procs) (c:Control) (event:Int) (now:Int) (hp:s.Waiting.length≤1000∧s.Pending.length≤1000) (v:Procs×(List Control)×Int) (hv:v=r28Start s c event now): r28Start.nf s c event now v:=by
 unfold r28Start at hv
 unfold r28Start.nf
 revert hv;refine by_cond2 (fun hb hv=>?_) (fun hb hv=>?_)
 subst hv;exact ⟨rfl,rfl⟩
 revert hv;refine by_cond2 (fun hb hv=>?_) (fun hb hv=>?_)
 subst hv;exact ⟨rfl,rfl⟩
 refine ⟨⟨?_⟩, ?_⟩;rotate_left
 revert hv;refine by_cond2 (fun hb hv=>?_) (fun hb hv=>?_)
 subst hv;exact ⟨rfl,rfl⟩
 refine ⟨⟨o3_ok _⟩, ?_⟩
 refine ⟨⟨o2_ok _⟩, ?_⟩
 revert hv;refine by_cond2 (fun hb hv=>?_) (fun hb hv=>?_)
 subst hv;exact ⟨rfl,rfl⟩
 revert hv;refine by_cond2 (fun hb hv=>?_) (fun hb hv=>?_)
 refine ⟨⟨?_⟩, ?_⟩;rotate_left
 subst hv;exact ⟨rfl,rfl⟩
 iterate 3 refine ⟨⟨o3_ok _⟩, ?_⟩
 refine ⟨⟨on_ok _⟩, ?_⟩
 iterate 3 refine ⟨⟨o3_ok _⟩, ?_⟩
 refine ⟨⟨on_ok _⟩, ?_⟩
 revert hv;refine by_cond2 (fun hb hv=>?_) (fun hb hv=>?_)
 intro hlen
 revert hv;refine by_cond2 (fun hb hv=>?_) (fun hb hv=>?_)
 subst hv;exact ⟨rfl,rfl⟩
 refine r28Start.qq0 s c event now v ?_
 unfold r28Start.q0
 refine ⟨⟨?_⟩, ?_⟩;rotate_left
 refine ⟨⟨?_⟩, ?_⟩;rotate_left
 subst hv;exact ⟨rfl,rfl⟩
 refine ⟨⟨?_⟩, ?_⟩;rotate_left
 subst hv;exact ⟨rfl,rfl⟩
 all_goals ((try clear hv);(try clear q1 q2);(try clear hk);(first | omega | ((try simp only [decide_eq_true_eq,decide_eq_false_iff_not,Bool.not_eq_true,Bool.not_eq_false,Bool.and_eq_true,Bool.or_eq_true,Bool.not_not,cond_and,cond_or,List.length_append,List.length_cons,List.length_nil] at *);(first | done | ((omega))))))
def r28Start.ct:Ct El:=ctOf r28Start.dec (fun x=>[x.1.Waiting.length≤1000∧x.1.Pending.length≤1000]) (fun x=>r28Start.res (r28Start x.1 x.2.1 x.2.2.1 x.2.2.2)) (fun x=>r28Start.news (r28Start x.1 x.2.1 x.2.2.1 x.2.2.2))
theorem r28Start.ok:CtOk (mkCx Tryz.prog S [] 0) 11 r28Start.ct:=ct_mk (C:=(mkCxY Tryz.prog S tab_r28Answer 0)) (mkCxY_ok sigOk mixed tab_r28Answer_ok 0) r28Start.dec_ok (fun x=>rfl) 4 (fun x hp=>(r28Start.nf_ok x.1 x.2.1 x.2.2.1 x.2.2.2 _).mpr (r28Start.key x.1 x.2.1 x.2.2.1 x.2.2.2 (hp _ (List.mem_singleton.2 rfl)) _ rfl))
def tab_r28Start:List (FuncId×Ct El):= (11,r28Start.ct):: tab_r28Answer
theorem tab_r28Start_ok:TabOk Tryz.prog S tab_r28Start:=⟨r28Start.ok,by kernel_rfl,tab_r28Answer_ok⟩
def r27Due.res (r:(List Change)×(List Change)): AV El:=.tup [.sl 55 (r.1:List (El 55)) false, .sl 55 (r.2:List (El 55)) false]
def r27Due.news (r:(List Change)×(List Change)): List (AObj El):= []
def r27Due.L (e v:(List Change)×(List Change)): Prop:=r27Due.res e=r27Due.res v∧r27Due.news e=r27Due.news v
def r27Due (l:List Change) (event:Int): (List Change)×(List Change):= cond (decide (0 < (↑(List.length l): Int))) (cond (r1Passed event (List.getD l (Int.toNat 0) Change.zero).Instant) (cond (decide (IntKind.wrap IntKind.i64 ((0:Int)+ (1:Int)) < (↑(List.length l): Int))) (cond (r1Passed event (List.getD l (Int.toNat (IntKind.wrap IntKind.i64 ((0:Int)+ (1:Int)))) Change.zero).Instant) (([],[])) (([],[]))) (([],[]++ [List.getD l (Int.toNat 0) Change.zero]))) (cond (decide (IntKind.wrap IntKind.i64 ((0:Int)+ (1:Int)) < (↑(List.length l): Int))) (cond (r1Passed event (List.getD l (Int.toNat (IntKind.wrap IntKind.i64 ((0:Int)+ (1:Int)))) Change.zero).Instant) (([],[])) (([],[]))) (([]++ [List.getD l (Int.toNat 0) Change.zero],[])))) (([],[]))
def r27Due.dec (cs:List (AV El)): Option ((List Change)×Int):= popS 55 cs fun a0 c0=>popI .u16 c0 fun a1 c1=>popE c1 (a0,a1)
def r27Due.enc (x:(List Change)×Int): List (AV El):= [.sl 55 (x.1:List (El 55)) false, .v (.int .u16 x.2)]
theorem r27Due.dec_ok : ∀cs x,r27Due.dec cs=some x→Imp (S:=S) cs (r27Due.enc x):= by
 intro cs x h
 unfold r27Due.dec at h
 obtain ⟨a0,c0,h0,k0⟩:= popS_some (S:=S) (t:=55) h
 obtain ⟨a1,c1,rfl,h1⟩:= popI_some (S:=S) h0
 obtain ⟨rfl,rfl⟩:= popE_some (S:=S) h1
 exact (k0 _ (.cons (.refl _)))
def r27Due.nf (l:List Change) (event:Int) (v:(List Change)×(List Change)): Prop:=(List.length l≤(9223372036854775807:Nat))→(cond (decide (0 < (↑(List.length l): Int))) (Ob ((0:Int)≤(0:Int)∧0 < (↑(List.length l): Int))∧(cond (r1Passed event (List.getD l (Int.toNat 0) Change.zero).Instant) (Ob ((0:Int)≤(0:Int)∧0 < (↑(List.length l): Int))∧(Ob (((0:Nat)+ List.length [List.getD l (Int.toNat 0) Change.zero])* (64:Nat)≤(140737488355328:Nat))∧((List.length l≤(9223372036854775807:Nat))→(cond (decide (IntKind.wrap IntKind.i64 ((0:Int)+ (1:Int)) < (↑(List.length l): Int))) (Ob (0≤IntKind.wrap IntKind.i64 ((0:Int)+ (1:Int))∧IntKind.wrap IntKind.i64 ((0:Int)+ (1:Int)) < (↑(List.length l): Int))∧(cond (r1Passed event (List.getD l (Int.toNat (IntKind.wrap IntKind.i64 ((0:Int)+ (1:Int)))) Change.zero).Instant) (Ob (0≤IntKind.wrap IntKind.i64 ((0:Int)+ (1:Int))∧IntKind.wrap IntKind.i64 ((0:Int)+ (1:Int)) < (↑(List.length l): Int))∧(Ob ((List.length ([]++ [List.getD l (Int.toNat 0) Change.zero])+ List.length [List.getD l (Int.toNat (IntKind.wrap IntKind.i64 ((0:Int)+ (1:Int)))) Change.zero])* (64:Nat)≤(140737488355328:Nat))∧(False))) (Ob (0≤IntKind.wrap IntKind.i64 ((0:Int)+ (1:Int))∧IntKind.wrap IntKind.i64 ((0:Int)+ (1:Int)) < (↑(List.length l): Int))∧(Ob (((0:Nat)+ List.length [List.getD l (Int.toNat (IntKind.wrap IntKind.i64 ((0:Int)+ (1:Int)))) Change.zero])* (64:Nat)≤(140737488355328:Nat))∧(False))))) (r27Due.L (([],[]++ [List.getD l (Int.toNat 0) Change.zero])) v))))) (Ob ((0:Int)≤(0:Int)∧0 < (↑(List.length l): Int))∧(Ob (((0:Nat)+ List.length [List.getD l (Int.toNat 0) Change.zero])* (64:Nat)≤(140737488355328:Nat))∧((List.length l≤(9223372036854775807:Nat))→(cond (decide (IntKind.wrap IntKind.i64 ((0:Int)+ (1:Int)) < (↑(List.length l): Int))) (Ob (0≤IntKind.wrap IntKind.i64 ((0:Int)+ (1:Int))∧IntKind.wrap IntKind.i64 ((0:Int)+ (1:Int)) < (↑(List.length l): Int))∧(cond (r1Passed event (List.getD l (Int.toNat (IntKind.wrap IntKind.i64 ((0:Int)+ (1:Int)))) Change.zero).Instant) (Ob (0≤IntKind.wrap IntKind.i64 ((0:Int)+ (1:Int))∧IntKind.wrap IntKind.i64 ((0:Int)+ (1:Int)) < (↑(List.length l): Int))∧(Ob (((0:Nat)+ List.length [List.getD l (Int.toNat (IntKind.wrap IntKind.i64 ((0:Int)+ (1:Int)))) Change.zero])* (64:Nat)≤(140737488355328:Nat))∧(False))) (Ob (0≤IntKind.wrap IntKind.i64 ((0:Int)+ (1:Int))∧IntKind.wrap IntKind.i64 ((0:Int)+ (1:Int)) < (↑(List.length l): Int))∧(Ob ((List.length ([]++ [List.getD l (Int.toNat 0) Change.zero])+ List.length [List.getD l (Int.toNat (IntKind.wrap IntKind.i64 ((0:Int)+ (1:Int)))) Change.zero])* (64:Nat)≤(140737488355328:Nat))∧(False))))) (r27Due.L (([]++ [List.getD l (Int.toNat 0) Change.zero],[])) v))))))) (r27Due.L (([],[])) v))
theorem r27Due.nf_ok (l:List Change) (event:Int) (v:(List Change)×(List Change)): evFun (mkCx Tryz.prog S tab_r28Start 2) 4 58 [.sl 55 (l:List (El 55)) false, .v (.int .u16 event)] [] (fun r' H'=>Gives r' H' (r27Due.res v) (r27Due.news v))= r27Due.nf l event v:=by kernel_rfl
theorem r27Due.key (l:List Change) (event:Int) (hp:l.length≤1) (v:(List Change)×(List Change)) (hv:v=r27Due l event): r27Due.nf l event v:=by
 unfold r27Due at hv
 unfold r27Due.nf
 intro hlen
 revert hv;refine by_cond2 (fun hb hv=>?_) (fun hb hv=>?_)
 refine ⟨⟨?_⟩, ?_⟩;rotate_left
 revert hv;refine by_cond2 (fun hb hv=>?_) (fun hb hv=>?_)
 refine ⟨⟨?_⟩, ?_⟩;rotate_left
 refine ⟨⟨?_⟩, ?_⟩;rotate_left
 intro hlen
 revert hv;refine by_cond2 (fun hb hv=>?_) (fun hb hv=>?_)
 refine ⟨⟨?_⟩, ?_⟩;rotate_left
 revert hv;refine by_cond2 (fun hb hv=>?_) (fun hb hv=>?_)
 refine ⟨⟨?_⟩, ?_⟩;rotate_left
 refine ⟨⟨?_⟩, ?_⟩;rotate_left
 exact False.elim (by (try clear hv);(try clear q1 q2);(try clear hk);(exfalso;have hw:IntKind.wrap IntKind.i64 ((0:Int)+ (1:Int))= 1:=(by decide);simp only [hw,decide_eq_true_eq,decide_eq_false_iff_not] at * <;> omega))
 refine ⟨⟨?_⟩, ?_⟩;rotate_left
 refine ⟨⟨?_⟩, ?_⟩;rotate_left
 exact False.elim (by (try clear hv);(try clear q1 q2);(try clear hk);(exfalso;have hw:IntKind.wrap IntKind.i64 ((0:Int)+ (1:Int))= 1:=(by decide);simp only [hw,decide_eq_true_eq,decide_eq_false_iff_not] at * <;> omega))
 subst hv;exact ⟨rfl,rfl⟩
 refine ⟨⟨?_⟩, ?_⟩;rotate_left
 refine ⟨⟨?_⟩, ?_⟩;rotate_left
 intro hlen
 revert hv;refine by_cond2 (fun hb hv=>?_) (fun hb hv=>?_)
 refine ⟨⟨?_⟩, ?_⟩;rotate_left
 revert hv;refine by_cond2 (fun hb hv=>?_) (fun hb hv=>?_)
 refine ⟨⟨?_⟩, ?_⟩;rotate_left
 refine ⟨⟨?_⟩, ?_⟩;rotate_left
 exact False.elim (by (try clear hv);(try clear q1 q2);(try clear hk);(exfalso;have hw:IntKind.wrap IntKind.i64 ((0:Int)+ (1:Int))= 1:=(by decide);simp only [hw,decide_eq_true_eq,decide_eq_false_iff_not] at * <;> omega))
 refine ⟨⟨?_⟩, ?_⟩;rotate_left
 refine ⟨⟨?_⟩, ?_⟩;rotate_left
 exact False.elim (by (try clear hv);(try clear q1 q2);(try clear hk);(exfalso;have hw:IntKind.wrap IntKind.i64 ((0:Int)+ (1:Int))= 1:=(by decide);simp only [hw,decide_eq_true_eq,decide_eq_false_iff_not] at * <;> omega))
 subst hv;exact ⟨rfl,rfl⟩
 subst hv;exact ⟨rfl,rfl⟩
 all_goals (first | ((try clear hv);(try clear q1 q2);(try clear hk);(((try simp only [decide_eq_true_eq,decide_eq_false_iff_not,Bool.not_eq_true,Bool.not_eq_false,Bool.and_eq_true,Bool.or_eq_true,Bool.not_not,cond_and,cond_or,List.length_append,List.length_cons,List.length_nil] at *);(first | done | (have:=wi64s ((0:Int)+ (1:Int));(omega)))));done)| ((try clear hv);(try clear q1 q2);(try clear hk);(first | omega | ((try simp only [decide_eq_true_eq,decide_eq_false_iff_not,Bool.not_eq_true,Bool.not_eq_false,Bool.and_eq_true,Bool.or_eq_true,Bool.not_not,cond_and,cond_or,List.length_append,List.length_cons,List.length_nil] at *);(first | done | (omega))));done))
def r27Due.ct:Ct El:=ctOf r27Due.dec (fun x=>[x.1.length≤1]) (fun x=>r27Due.res (r27Due x.1 x.2)) (fun x=>r27Due.news (r27Due x.1 x.2))
theorem r27Due.ok:CtOk (mkCx Tryz.prog S [] 0) 58 r27Due.ct:=ct_mk (C:=(mkCx Tryz.prog S tab_r28Start 2)) (mkCx_ok sigOk mixed tab_r28Start_ok 2) r27Due.dec_ok (fun x=>rfl) 4 (fun x hp=>(r27Due.nf_ok x.1 x.2 _).mpr (r27Due.key x.1 x.2 (hp _ (List.mem_singleton.2 rfl)) _ rfl))
def tab_r27Due:List (FuncId×Ct El):= (58,r27Due.ct):: tab_r28Start
theorem tab_r27Due_ok:TabOk Tryz.prog S tab_r27Due:=⟨r27Due.ok,by kernel_rfl,tab_r28Start_ok⟩
end Go.Aw.W
