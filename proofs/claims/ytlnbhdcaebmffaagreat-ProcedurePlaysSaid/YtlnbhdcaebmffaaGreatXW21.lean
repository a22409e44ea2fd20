/- Contracts of the seat (printed by ct.py). -/
import Derived.Test.YtlnbhdcaebmffaaGreatXW20
set_option linter.unusedVariables false
set_option linter.unusedSimpArgs false
set_option maxRecDepth 20000
set_option maxHeartbeats 1000000
namespace Go.Aw.W
open Go Go.Aw Go.Proofs
attribute [local irreducible] evCode evFun evOps evDs evOne ctxK loopK loopB subC bodyC headS okH roundK
attribute [local irreducible] cCheck
def r28hChange.res (r:Procs): AV El:=Procs.av (r)
def r28hChange.news (r:Procs): List (AObj El):= []
def r28hChange.L (e v:Procs): Prop:=r28hChange.res e=r28hChange.res v∧r28hChange.news e=r28hChange.news v
def r28hChange (s:Procs) (c:Control) (event:Int) (now:Int): Procs:=cond (s.Role != 1) (s) (cond ((r27Add s.Pending event (r28change c)).snd==18) (({s with Ended:=40}: Procs)) (cond ((r27Add s.Pending event (r28change c)).snd != 0) (({s with Ended:=42}: Procs)) (cond (bif c.Kind==0 then s.Own==15 else false) (({s with Own:=(-1),Other:=c.Kind,OtherTime:=now,Pending:=(r27Add s.Pending event (r28change c)).fst}: Procs)) (({s with Other:=c.Kind,OtherTime:=now,Pending:=(r27Add s.Pending event (r28change c)).fst}: Procs)))))
def r28hChange.dec (cs:List (AV El)): Option (Procs×Control×Int×Int):= popA Procs.dec cs fun a0 c0=>popA Control.dec c0 fun a1 c1=>popI .u16 c1 fun a2 c2=>popI .i64 c2 fun a3 c3=>popE c3 (a0,a1,a2,a3)
def r28hChange.enc (x:Procs×Control×Int×Int): List (AV El):= [Procs.av x.1,Control.av x.2.1, .v (.int .u16 x.2.2.1), .v (.int .i64 x.2.2.2)]
theorem r28hChange.dec_ok : ∀cs x,r28hChange.dec cs=some x→Imp (S:=S) cs (r28hChange.enc x):= by
 intro cs x h
 unfold r28hChange.dec at h
 obtain ⟨a0,c0,h0,k0⟩:= popA_some (S:=S) Procs.dec_ok h
 obtain ⟨a1,c1,h1,k1⟩:= popA_some (S:=S) Control.dec_ok h0
 obtain ⟨a2,c2,rfl,h2⟩:= popI_some (S:=S) h1
 obtain ⟨a3,c3,rfl,h3⟩:= popI_some (S:=S) h2
 obtain ⟨rfl,rfl⟩:= popE_some (S:=S) h3
 exact (k0 _ (k1 _ (.cons (.cons (.refl _)))))
def r28hChange.nf (s:Procs) (c:Control) (event:Int) (now:Int) (v:Procs): Prop:=cond (s.Role != 1) (r28hChange.L (s) v) (Ob (List.length s.Pending≤(1000:Nat))∧(cond ((r27Add s.Pending event (r28change c)).snd==18) (r28hChange.L (({s with Ended:=40}: Procs)) v) (cond ((r27Add s.Pending event (r28change c)).snd != 0) (r28hChange.L (({s with Ended:=42}: Procs)) v) (Ob (o3 (c.Kind==0))∧(Ob (o3 (c.Kind==0))∧(Ob (o2 (c.Kind==0))∧(cond (bif c.Kind==0 then s.Own==15 else false) (r28hChange.L (({s with Own:=(-1),Other:=c.Kind,OtherTime:=now,Pending:=(r27Add s.Pending event (r28change c)).fst}: Procs)) v) (r28hChange.L (({s with Other:=c.Kind,OtherTime:=now,Pending:=(r27Add s.Pending event (r28change c)).fst}: Procs)) v))))))))
theorem r28hChange.nf_ok (s:Procs) (c:Control) (event:Int) (now:Int) (v:Procs): evFun (mkCx Tryz.prog S tab_r27Due 0) 4 49 [Procs.av s,Control.av c, .v (.int .u16 event), .v (.int .i64 now)] [] (fun r' H'=>Gives r' H' (r28hChange.res v) (r28hChange.news v))= r28hChange.nf s c event now v:=by kernel_rfl
theorem r28hChange.key (s:Procs) (c:Control) (event:Int) (now:Int) (hp:s.Pending.length≤1000) (v:Procs) (hv:v=r28hChange s c event now): r28hChange.nf s c event now v:=by
 unfold r28hChange at hv
 unfold r28hChange.nf
 revert hv;refine by_cond2 (fun hb hv=>?_) (fun hb hv=>?_)
 ·subst hv;exact ⟨rfl,rfl⟩
 ·refine ⟨⟨by (try clear hv);(try clear q1 q2);(try clear hk);(omega)⟩, ?_⟩
  revert hv;refine by_cond2 (fun hb hv=>?_) (fun hb hv=>?_)
  ·subst hv;exact ⟨rfl,rfl⟩
  ·revert hv;refine by_cond2 (fun hb hv=>?_) (fun hb hv=>?_)
   ·subst hv;exact ⟨rfl,rfl⟩
   ·refine ⟨⟨o3_ok _⟩, ?_⟩
    refine ⟨⟨o3_ok _⟩, ?_⟩
    refine ⟨⟨o2_ok _⟩, ?_⟩
    revert hv;refine by_cond2 (fun hb hv=>?_) (fun hb hv=>?_)
    ·subst hv;exact ⟨rfl,rfl⟩
    ·subst hv;exact ⟨rfl,rfl⟩
def r28hChange.ct:Ct El:=ctOf r28hChange.dec (fun x=>[x.1.Pending.length≤1000]) (fun x=>r28hChange.res (r28hChange x.1 x.2.1 x.2.2.1 x.2.2.2)) (fun x=>r28hChange.news (r28hChange x.1 x.2.1 x.2.2.1 x.2.2.2))
theorem r28hChange.ok:CtOk (mkCx Tryz.prog S [] 0) 49 r28hChange.ct:=ct_mk (C:=(mkCx Tryz.prog S tab_r27Due 0)) (mkCx_ok sigOk mixed tab_r27Due_ok 0) r28hChange.dec_ok (fun x=>rfl) 4 (fun x hp=>(r28hChange.nf_ok x.1 x.2.1 x.2.2.1 x.2.2.2 _).mpr (r28hChange.key x.1 x.2.1 x.2.2.1 x.2.2.2 (hp _ (List.mem_singleton.2 rfl)) _ rfl))
def tab_r28hChange:List (FuncId×Ct El):= (49,r28hChange.ct):: tab_r27Due
theorem tab_r28hChange_ok:TabOk Tryz.prog S tab_r28hChange:=⟨r28hChange.ok,by kernel_rfl,tab_r27Due_ok⟩
def r28hCrypt.res (r:Procs×(List Control)×(List Indication)): AV El:=.tup [Procs.av (r.1), .sl 37 (r.2.1:List (El 37)) false, .sl 57 (r.2.2:List (El 57)) false]
def r28hCrypt.news (r:Procs×(List Control)×(List Indication)): List (AObj El):= []
def r28hCrypt.L (e v:Procs×(List Control)×(List Indication)): Prop:=r28hCrypt.res e=r28hCrypt.res v∧r28hCrypt.news e=r28hCrypt.news v
def r28hCrypt (s:Procs) (c:Control) (now:Int): Procs×(List Control)×(List Indication):= cond (bif bif c.Kind==3 then !s.Role==0 else false then s.Crypt==0 else false) ((({s with Other:=3,OtherTime:=now,Peer:=c.Salt,Mark:=c.Mark,Crypt:=1}: Procs),[],r28tell 8 c.Mark)) (cond (bif bif c.Kind==4 then s.Role==0 else false then s.Crypt==1 else false) ((({s with Peer:=c.Salt,Crypt:=2}: Procs),[],[])) (cond (bif bif c.Kind==5 then s.Role==0 else false then s.Crypt==2 else false) ((({s with Crypt:=3}: Procs),r28one {Kind:=6,Update:={WinSize:=0,WinOffset:=0,Interval:=0,Latency:=0,Timeout:=0:Update},Map:=0,Instant:=0,Reason:=0,Rejected:=0,Salt:=0,Mark:=0,Features:=0,Version:=0,Length:=0:Control},[])) (cond (bif c.Kind==6 then s.Crypt==3 else false) (cond (s.Role==0) ((({s with Own:=(-1),Crypt:=4}: Procs),[],r28tell 3 0)) ((({s with Other:=(-1),Crypt:=4}: Procs),r28one {Kind:=6,Update:={WinSize:=0,WinOffset:=0,Interval:=0,Latency:=0,Timeout:=0:Update},Map:=0,Instant:=0,Reason:=0,Rejected:=0,Salt:=0,Mark:=0,Features:=0,Version:=0,Length:=0:Control},r28tell 3 0))) ((s,[],[])))))
def r28hCrypt.dec (cs:List (AV El)): Option (Procs×Control×Int):= popA Procs.dec cs fun a0 c0=>popA Control.dec c0 fun a1 c1=>popI .i64 c1 fun a2 c2=>popE c2 (a0,a1,a2)
def r28hCrypt.enc (x:Procs×Control×Int): List (AV El):= [Procs.av x.1,Control.av x.2.1, .v (.int .i64 x.2.2)]
theorem r28hCrypt.dec_ok : ∀cs x,r28hCrypt.dec cs=some x→Imp (S:=S) cs (r28hCrypt.enc x):= by
 intro cs x h
 unfold r28hCrypt.dec at h
 obtain ⟨a0,c0,h0,k0⟩:= popA_some (S:=S) Procs.dec_ok h
 obtain ⟨a1,c1,h1,k1⟩:= popA_some (S:=S) Control.dec_ok h0
 obtain ⟨a2,c2,rfl,h2⟩:= popI_some (S:=S) h1
 obtain ⟨rfl,rfl⟩:= popE_some (S:=S) h2
 exact (k0 _ (k1 _ (.cons (.refl _))))
def r28hCrypt.nf (s:Procs) (c:Control) (now:Int) (v:Procs×(List Control)×(List Indication)): Prop:=Ob (o3 (c.Kind==3))∧(Ob (o2 (c.Kind==3))∧(Ob (o3 (bif c.Kind==3 then !s.Role==0 else false))∧(Ob (o3 (bif c.Kind==3 then !s.Role==0 else false))∧(Ob (o2 (bif c.Kind==3 then !s.Role==0 else false))∧(cond (bif bif c.Kind==3 then !s.Role==0 else false then s.Crypt==0 else false) (r28hCrypt.L ((({s with Other:=3,OtherTime:=now,Peer:=c.Salt,Mark:=c.Mark,Crypt:=1}: Procs),[],r28tell 8 c.Mark)) v) (Ob (o2 (c.Kind==4))∧(Ob (o3 (bif c.Kind==4 then s.Role==0 else false))∧(Ob (o3 (bif c.Kind==4 then s.Role==0 else false))∧(Ob (o2 (bif c.Kind==4 then s.Role==0 else false))∧(cond (bif bif c.Kind==4 then s.Role==0 else false then s.Crypt==1 else false) (r28hCrypt.L ((({s with Peer:=c.Salt,Crypt:=2}: Procs),[],[])) v) (Ob (o2 (c.Kind==5))∧(Ob (o3 (bif c.Kind==5 then s.Role==0 else false))∧(Ob (o3 (bif c.Kind==5 then s.Role==0 else false))∧(Ob (o2 (bif c.Kind==5 then s.Role==0 else false))∧(cond (bif bif c.Kind==5 then s.Role==0 else false then s.Crypt==2 else false) (r28hCrypt.L ((({s with Crypt:=3}: Procs),r28one {Kind:=6,Update:={WinSize:=0,WinOffset:=0,Interval:=0,Latency:=0,Timeout:=0:Update},Map:=0,Instant:=0,Reason:=0,Rejected:=0,Salt:=0,Mark:=0,Features:=0,Version:=0,Length:=0:Control},[])) v) (Ob (o3 (c.Kind==6))∧(Ob (o3 (c.Kind==6))∧(Ob (o2 (c.Kind==6))∧(cond (bif c.Kind==6 then s.Crypt==3 else false) (cond (s.Role==0) (r28hCrypt.L ((({s with Own:=(-1),Crypt:=4}: Procs),[],r28tell 3 0)) v) (r28hCrypt.L ((({s with Other:=(-1),Crypt:=4}: Procs),r28one {Kind:=6,Update:={WinSize:=0,WinOffset:=0,Interval:=0,Latency:=0,Timeout:=0:Update},Map:=0,Instant:=0,Reason:=0,Rejected:=0,Salt:=0,Mark:=0,Features:=0,Version:=0,Length:=0:Control},r28tell 3 0)) v)) (r28hCrypt.L ((s,[],[])) v))))))))))))))))))))
theorem r28hCrypt.nf_ok (s:Procs) (c:Control) (now:Int) (v:Procs×(List Control)×(List Indication)): evFun (mkCx Tryz.prog S tab_r27Due 0) 4 50 [Procs.av s,Control.av c, .v (.int .i64 now)] [] (fun r' H'=>Gives r' H' (r28hCrypt.res v) (r28hCrypt.news v))= r28hCrypt.nf s c now v:=by kernel_rfl
theorem r28hCrypt.key (s:Procs) (c:Control) (now:Int) (v:Procs×(List Control)×(List Indication)) (hv:v=r28hCrypt s c now): r28hCrypt.nf s c now v:=by
 unfold r28hCrypt at hv
 unfold r28hCrypt.nf
 refine ⟨⟨o3_ok _⟩, ?_⟩
 refine ⟨⟨o2_ok _⟩, ?_⟩
 iterate 2 refine ⟨⟨o3_ok _⟩, ?_⟩
 refine ⟨⟨o2_ok _⟩, ?_⟩
 revert hv;refine by_cond2 (fun hb hv=>?_) (fun hb hv=>?_)
 ·subst hv;exact ⟨rfl,rfl⟩
 ·refine ⟨⟨o2_ok _⟩, ?_⟩
  iterate 2 refine ⟨⟨o3_ok _⟩, ?_⟩
  refine ⟨⟨o2_ok _⟩, ?_⟩
  revert hv;refine by_cond2 (fun hb hv=>?_) (fun hb hv=>?_)
  ·subst hv;exact ⟨rfl,rfl⟩
  ·refine ⟨⟨o2_ok _⟩, ?_⟩
   iterate 2 refine ⟨⟨o3_ok _⟩, ?_⟩
   refine ⟨⟨o2_ok _⟩, ?_⟩
   revert hv;refine by_cond2 (fun hb hv=>?_) (fun hb hv=>?_)
   ·subst hv;exact ⟨rfl,rfl⟩
   ·refine ⟨⟨o3_ok _⟩, ?_⟩
    refine ⟨⟨o3_ok _⟩, ?_⟩
    refine ⟨⟨o2_ok _⟩, ?_⟩
    revert hv;refine by_cond2 (fun hb hv=>?_) (fun hb hv=>?_)
    ·revert hv;refine by_cond2 (fun hb hv=>?_) (fun hb hv=>?_)
     ·subst hv;exact ⟨rfl,rfl⟩
     ·subst hv;exact ⟨rfl,rfl⟩
    ·subst hv;exact ⟨rfl,rfl⟩
def r28hCrypt.ct:Ct El:=ctOf r28hCrypt.dec (fun _=>[]) (fun x=>r28hCrypt.res (r28hCrypt x.1 x.2.1 x.2.2)) (fun x=>r28hCrypt.news (r28hCrypt x.1 x.2.1 x.2.2))
theorem r28hCrypt.ok:CtOk (mkCx Tryz.prog S [] 0) 50 r28hCrypt.ct:=ct_mk (C:=(mkCx Tryz.prog S tab_r27Due 0)) (mkCx_ok sigOk mixed tab_r27Due_ok 0) r28hCrypt.dec_ok (fun x=>rfl) 4 (fun x _=>(r28hCrypt.nf_ok x.1 x.2.1 x.2.2 _).mpr (r28hCrypt.key x.1 x.2.1 x.2.2 _ rfl))
def tab_r28hCrypt:List (FuncId×Ct El):= (50,r28hCrypt.ct):: tab_r28hChange
theorem tab_r28hCrypt_ok:TabOk Tryz.prog S tab_r28hCrypt:=⟨r28hCrypt.ok,by kernel_rfl,tab_r28hChange_ok⟩
def r28hReject.res (r:Procs×(List Control)×(List Indication)): AV El:=.tup [Procs.av (r.1), .sl 37 (r.2.1:List (El 37)) false, .sl 57 (r.2.2:List (El 57)) false]
def r28hReject.news (r:Procs×(List Control)×(List Indication)): List (AObj El):= []
def r28hReject.L (e v:Procs×(List Control)×(List Indication)): Prop:=r28hReject.res e=r28hReject.res v∧r28hReject.news e=r28hReject.news v
def r28hReject (s:Procs) (c:Control): Procs×(List Control)×(List Indication):= cond (bif bif s.Own != c.Rejected then true else r28timed s.Own then true else s.Own==2) ((s,[],[])) (cond (s.Own==3) ((({s with Own:=(-1),Crypt:=0}: Procs),[],r28tell 9 (IntKind.wrap IntKind.u64 c.Rejected))) ((({s with Own:=(-1)}: Procs),[],r28tell 9 (IntKind.wrap IntKind.u64 c.Rejected))))
def r28hReject.dec (cs:List (AV El)): Option (Procs×Control):= popA Procs.dec cs fun a0 c0=>popA Control.dec c0 fun a1 c1=>popE c1 (a0,a1)
def r28hReject.enc (x:Procs×Control): List (AV El):= [Procs.av x.1,Control.av x.2]
theorem r28hReject.dec_ok : ∀cs x,r28hReject.dec cs=some x→Imp (S:=S) cs (r28hReject.enc x):= by
 intro cs x h
 unfold r28hReject.dec at h
 obtain ⟨a0,c0,h0,k0⟩:= popA_some (S:=S) Procs.dec_ok h
 obtain ⟨a1,c1,h1,k1⟩:= popA_some (S:=S) Control.dec_ok h0
 obtain ⟨rfl,rfl⟩:= popE_some (S:=S) h1
 exact (k0 _ (k1 _ (.refl _)))
def r28hReject.nf (s:Procs) (c:Control) (v:Procs×(List Control)×(List Indication)): Prop:=Ob (o3 (!s.Own != c.Rejected))∧(Ob (o3 (!s.Own != c.Rejected))∧(Ob (on (s.Own != c.Rejected))∧(Ob (o3 (!bif s.Own != c.Rejected then true else r28timed s.Own))∧(Ob (o3 (!bif s.Own != c.Rejected then true else r28timed s.Own))∧(Ob (on (bif s.Own != c.Rejected then true else r28timed s.Own))∧(cond (bif bif s.Own != c.Rejected then true else r28timed s.Own then true else s.Own==2) (r28hReject.L ((s,[],[])) v) (cond (s.Own==3) (r28hReject.L ((({s with Own:=(-1),Crypt:=0}: Procs),[],r28tell 9 (IntKind.wrap IntKind.u64 c.Rejected))) v) (r28hReject.L ((({s with Own:=(-1)}: Procs),[],r28tell 9 (IntKind.wrap IntKind.u64 c.Rejected))) v))))))))
theorem r28hReject.nf_ok (s:Procs) (c:Control) (v:Procs×(List Control)×(List Indication)): evFun (mkCx Tryz.prog S tab_r27Due 0) 4 51 [Procs.av s,Control.av c] [] (fun r' H'=>Gives r' H' (r28hReject.res v) (r28hReject.news v))= r28hReject.nf s c v:=by kernel_rfl
theorem r28hReject.key (s:Procs) (c:Control) (v:Procs×(List Control)×(List Indication)) (hv:v=r28hReject s c): r28hReject.nf s c v:=by
 unfold r28hReject at hv
 unfold r28hReject.nf
 iterate 2 refine ⟨⟨o3_ok _⟩, ?_⟩
 refine ⟨⟨on_ok _⟩, ?_⟩
 iterate 2 refine ⟨⟨o3_ok _⟩, ?_⟩
 refine ⟨⟨on_ok _⟩, ?_⟩
 revert hv;refine by_cond2 (fun hb hv=>?_) (fun hb hv=>?_)
 ·subst hv;exact ⟨rfl,rfl⟩
 ·revert hv;refine by_cond2 (fun hb hv=>?_) (fun hb hv=>?_)
  ·subst hv;exact ⟨rfl,rfl⟩
  ·subst hv;exact ⟨rfl,rfl⟩
def r28hReject.ct:Ct El:=ctOf r28hReject.dec (fun _=>[]) (fun x=>r28hReject.res (r28hReject x.1 x.2)) (fun x=>r28hReject.news (r28hReject x.1 x.2))
theorem r28hReject.ok:CtOk (mkCx Tryz.prog S [] 0) 51 r28hReject.ct:=ct_mk (C:=(mkCx Tryz.prog S tab_r27Due 0)) (mkCx_ok sigOk mixed tab_r27Due_ok 0) r28hReject.dec_ok (fun x=>rfl) 4 (fun x _=>(r28hReject.nf_ok x.1 x.2 _).mpr (r28hReject.key x.1 x.2 _ rfl))
def tab_r28hReject:List (FuncId×Ct El):= (51,r28hReject.ct):: tab_r28hCrypt
theorem tab_r28hReject_ok:TabOk Tryz.prog S tab_r28hReject:=⟨r28hReject.ok,by kernel_rfl,tab_r28hCrypt_ok⟩
def r28hParams.res (r:Procs×(List Control)×(List Indication)): AV El:=.tup [Procs.av (r.1), .sl 37 (r.2.1:List (El 37)) false, .sl 57 (r.2.2:List (El 57)) false]
def r28hParams.news (r:Procs×(List Control)×(List Indication)): List (AObj El):= []
def r28hParams.L (e v:Procs×(List Control)×(List Indication)): Prop:=r28hParams.res e=r28hParams.res v∧r28hParams.news e=r28hParams.news v
def r28hParams (s:Procs) (c:Control) (now:Int): Procs×(List Control)×(List Indication):= cond (s.Role != 0) ((s,[],[])) (cond (r28timed s.Own) ((s,r28one {Kind:=13,Update:={WinSize:=0,WinOffset:=0,Interval:=0,Latency:=0,Timeout:=0:Update},Map:=0,Instant:=0,Reason:=42,Rejected:=15,Salt:=0,Mark:=0,Features:=0,Version:=0,Length:=0:Control},[])) ((({s with Other:=15,OtherTime:=now}: Procs),[],[{Kind:=12,Event:=0,Packet:={LLID:=0,Payload:=[]: Packet},Change:={Kind:=0,Instant:=0,Update:={WinSize:=0,WinOffset:=0,Interval:=0,Latency:=0,Timeout:=0:Update},Map:=0:Change},Number:=0,Update:=c.Update:Indication}])))
def r28hParams.dec (cs:List (AV El)): Option (Procs×Control×Int):= popA Procs.dec cs fun a0 c0=>popA Control.dec c0 fun a1 c1=>popI .i64 c1 fun a2 c2=>popE c2 (a0,a1,a2)
def r28hParams.enc (x:Procs×Control×Int): List (AV El):= [Procs.av x.1,Control.av x.2.1, .v (.int .i64 x.2.2)]
theorem r28hParams.dec_ok : ∀cs x,r28hParams.dec cs=some x→Imp (S:=S) cs (r28hParams.enc x):= by
 intro cs x h
 unfold r28hParams.dec at h
 obtain ⟨a0,c0,h0,k0⟩:= popA_some (S:=S) Procs.dec_ok h
 obtain ⟨a1,c1,h1,k1⟩:= popA_some (S:=S) Control.dec_ok h0
 obtain ⟨a2,c2,rfl,h2⟩:= popI_some (S:=S) h1
 obtain ⟨rfl,rfl⟩:= popE_some (S:=S) h2
 exact (k0 _ (k1 _ (.cons (.refl _))))
def r28hParams.nf (s:Procs) (c:Control) (now:Int) (v:Procs×(List Control)×(List Indication)): Prop:=cond (s.Role != 0) (r28hParams.L ((s,[],[])) v) (cond (r28timed s.Own) (r28hParams.L ((s,r28one {Kind:=13,Update:={WinSize:=0,WinOffset:=0,Interval:=0,Latency:=0,Timeout:=0:Update},Map:=0,Instant:=0,Reason:=42,Rejected:=15,Salt:=0,Mark:=0,Features:=0,Version:=0,Length:=0:Control},[])) v) (r28hParams.L ((({s with Other:=15,OtherTime:=now}: Procs),[],[{Kind:=12,Event:=0,Packet:={LLID:=0,Payload:=[]: Packet},Change:={Kind:=0,Instant:=0,Update:={WinSize:=0,WinOffset:=0,Interval:=0,Latency:=0,Timeout:=0:Update},Map:=0:Change},Number:=0,Update:=c.Update:Indication}])) v))
theorem r28hParams.nf_ok (s:Procs) (c:Control) (now:Int) (v:Procs×(List Control)×(List Indication)): evFun (mkCx Tryz.prog S tab_r27Due 0) 4 52 [Procs.av s,Control.av c, .v (.int .i64 now)] [] (fun r' H'=>Gives r' H' (r28hParams.res v) (r28hParams.news v))= r28hParams.nf s c now v:=by kernel_rfl
theorem r28hParams.key (s:Procs) (c:Control) (now:Int) (v:Procs×(List Control)×(List Indication)) (hv:v=r28hParams s c now): r28hParams.nf s c now v:=by
 unfold r28hParams at hv
 unfold r28hParams.nf
 revert hv;refine by_cond2 (fun hb hv=>?_) (fun hb hv=>?_)
 ·subst hv;exact ⟨rfl,rfl⟩
 ·revert hv;refine by_cond2 (fun hb hv=>?_) (fun hb hv=>?_)
  ·subst hv;exact ⟨rfl,rfl⟩
  ·subst hv;exact ⟨rfl,rfl⟩
def r28hParams.ct:Ct El:=ctOf r28hParams.dec (fun _=>[]) (fun x=>r28hParams.res (r28hParams x.1 x.2.1 x.2.2)) (fun x=>r28hParams.news (r28hParams x.1 x.2.1 x.2.2))
theorem r28hParams.ok:CtOk (mkCx Tryz.prog S [] 0) 52 r28hParams.ct:=ct_mk (C:=(mkCx Tryz.prog S tab_r27Due 0)) (mkCx_ok sigOk mixed tab_r27Due_ok 0) r28hParams.dec_ok (fun x=>rfl) 4 (fun x _=>(r28hParams.nf_ok x.1 x.2.1 x.2.2 _).mpr (r28hParams.key x.1 x.2.1 x.2.2 _ rfl))
def tab_r28hParams:List (FuncId×Ct El):= (52,r28hParams.ct):: tab_r28hReject
theorem tab_r28hParams_ok:TabOk Tryz.prog S tab_r28hParams:=⟨r28hParams.ok,by kernel_rfl,tab_r28hReject_ok⟩
def r28hLength.res (r:Procs×(List Control)×(List Indication)): AV El:=.tup [Procs.av (r.1), .sl 37 (r.2.1:List (El 37)) false, .sl 57 (r.2.2:List (El 57)) false]
def r28hLength.news (r:Procs×(List Control)×(List Indication)): List (AObj El):= []
def r28hLength.L (e v:Procs×(List Control)×(List Indication)): Prop:=r28hLength.res e=r28hLength.res v∧r28hLength.news e=r28hLength.news v
def r28hLength (s:Procs) (c:Control): Procs×(List Control)×(List Indication):= cond (bif c.Kind==21 then s.Own != 20 else false) ((s,[],[])) (cond (c.Kind==21) ((({s with Own:=(-1),Length:=minI c.Length s.Limit}: Procs),[],r28tell 11 (IntKind.wrap IntKind.u64 (minI c.Length s.Limit)))) ((({s with Length:=minI c.Length s.Limit}: Procs),r28one {Kind:=21,Update:={WinSize:=0,WinOffset:=0,Interval:=0,Latency:=0,Timeout:=0:Update},Map:=0,Instant:=0,Reason:=0,Rejected:=0,Salt:=0,Mark:=0,Features:=0,Version:=0,Length:=s.Limit:Control},r28tell 11 (IntKind.wrap IntKind.u64 (minI c.Length s.Limit)))))
def r28hLength.dec (cs:List (AV El)): Option (Procs×Control):= popA Procs.dec cs fun a0 c0=>popA Control.dec c0 fun a1 c1=>popE c1 (a0,a1)
def r28hLength.enc (x:Procs×Control): List (AV El):= [Procs.av x.1,Control.av x.2]
theorem r28hLength.dec_ok : ∀cs x,r28hLength.dec cs=some x→Imp (S:=S) cs (r28hLength.enc x):= by
 intro cs x h
 unfold r28hLength.dec at h
 obtain ⟨a0,c0,h0,k0⟩:= popA_some (S:=S) Procs.dec_ok h
 obtain ⟨a1,c1,h1,k1⟩:= popA_some (S:=S) Control.dec_ok h0
 obtain ⟨rfl,rfl⟩:= popE_some (S:=S) h1
 exact (k0 _ (k1 _ (.refl _)))
def r28hLength.nf (s:Procs) (c:Control) (v:Procs×(List Control)×(List Indication)): Prop:=Ob (o3 (c.Kind==21))∧(Ob (o3 (c.Kind==21))∧(Ob (o2 (c.Kind==21))∧(cond (bif c.Kind==21 then s.Own != 20 else false) (r28hLength.L ((s,[],[])) v) (cond (c.Kind==21) (r28hLength.L ((({s with Own:=(-1),Length:=minI c.Length s.Limit}: Procs),[],r28tell 11 (IntKind.wrap IntKind.u64 (minI c.Length s.Limit)))) v) (r28hLength.L ((({s with Length:=minI c.Length s.Limit}: Procs),r28one {Kind:=21,Update:={WinSize:=0,WinOffset:=0,Interval:=0,Latency:=0,Timeout:=0:Update},Map:=0,Instant:=0,Reason:=0,Rejected:=0,Salt:=0,Mark:=0,Features:=0,Version:=0,Length:=s.Limit:Control},r28tell 11 (IntKind.wrap IntKind.u64 (minI c.Length s.Limit)))) v)))))
theorem r28hLength.nf_ok (s:Procs) (c:Control) (v:Procs×(List Control)×(List Indication)): evFun (mkCx Tryz.prog S tab_r27Due 0) 4 53 [Procs.av s,Control.av c] [] (fun r' H'=>Gives r' H' (r28hLength.res v) (r28hLength.news v))= r28hLength.nf s c v:=by kernel_rfl
theorem r28hLength.key (s:Procs) (c:Control) (v:Procs×(List Control)×(List Indication)) (hv:v=r28hLength s c): r28hLength.nf s c v:=by
 unfold r28hLength at hv
 unfold r28hLength.nf
 iterate 2 refine ⟨⟨o3_ok _⟩, ?_⟩
 refine ⟨⟨o2_ok _⟩, ?_⟩
 revert hv;refine by_cond2 (fun hb hv=>?_) (fun hb hv=>?_)
 ·subst hv;exact ⟨rfl,rfl⟩
 ·revert hv;refine by_cond2 (fun hb hv=>?_) (fun hb hv=>?_)
  ·subst hv;exact ⟨rfl,rfl⟩
  ·subst hv;exact ⟨rfl,rfl⟩
def r28hLength.ct:Ct El:=ctOf r28hLength.dec (fun _=>[]) (fun x=>r28hLength.res (r28hLength x.1 x.2)) (fun x=>r28hLength.news (r28hLength x.1 x.2))
theorem r28hLength.ok:CtOk (mkCx Tryz.prog S [] 0) 53 r28hLength.ct:=ct_mk (C:=(mkCx Tryz.prog S tab_r27Due 0)) (mkCx_ok sigOk mixed tab_r27Due_ok 0) r28hLength.dec_ok (fun x=>rfl) 4 (fun x _=>(r28hLength.nf_ok x.1 x.2 _).mpr (r28hLength.key x.1 x.2 _ rfl))
def tab_r28hLength:List (FuncId×Ct El):= (53,r28hLength.ct):: tab_r28hParams
theorem tab_r28hLength_ok:TabOk Tryz.prog S tab_r28hLength:=⟨r28hLength.ok,by kernel_rfl,tab_r28hParams_ok⟩
def r28hInfo.res (r:Procs×(List Control)×(List Indication)): AV El:=.tup [Procs.av (r.1), .sl 37 (r.2.1:List (El 37)) false, .sl 57 (r.2.2:List (El 57)) false]
def r28hInfo.news (r:Procs×(List Control)×(List Indication)): List (AObj El):= []
def r28hInfo.L (e v:Procs×(List Control)×(List Indication)): Prop:=r28hInfo.res e=r28hInfo.res v∧r28hInfo.news e=r28hInfo.news v
def r28hInfo (s:Procs) (c:Control): Procs×(List Control)×(List Indication):= cond (c.Kind==8) ((({s with Common:=bandK IntKind.u64 s.Features c.Features,Known:=true}: Procs),r28one {Kind:=9,Update:={WinSize:=0,WinOffset:=0,Interval:=0,Latency:=0,Timeout:=0:Update},Map:=0,Instant:=0,Reason:=0,Rejected:=0,Salt:=0,Mark:=0,Features:=s.Features,Version:=0,Length:=0:Control},r28tell 5 (bandK IntKind.u64 s.Features c.Features))) (cond (bif c.Kind==9 then s.Own==8 else false) ((({s with Own:=(-1),Common:=bandK IntKind.u64 s.Features c.Features,Known:=true}: Procs),[],r28tell 5 (bandK IntKind.u64 s.Features c.Features))) (cond (c.Kind==12) (cond (s.Own==12) ((({s with Own:=(-1),Version:=c.Version}: Procs),[],r28tell 6 (IntKind.wrap IntKind.u64 c.Version))) (cond (s.VersionTx) ((({s with Version:=c.Version}: Procs),[],r28tell 6 (IntKind.wrap IntKind.u64 c.Version))) ((({s with VersionTx:=true,Version:=c.Version}: Procs),r28one {Kind:=12,Update:={WinSize:=0,WinOffset:=0,Interval:=0,Latency:=0,Timeout:=0:Update},Map:=0,Instant:=0,Reason:=0,Rejected:=0,Salt:=0,Mark:=0,Features:=0,Version:=11,Length:=0:Control},r28tell 6 (IntKind.wrap IntKind.u64 c.Version))))) (cond (c.Kind==18) ((s,r28one {Kind:=19,Update:={WinSize:=0,WinOffset:=0,Interval:=0,Latency:=0,Timeout:=0:Update},Map:=0,Instant:=0,Reason:=0,Rejected:=0,Salt:=0,Mark:=0,Features:=0,Version:=0,Length:=0:Control},[])) (cond (bif c.Kind==19 then s.Own==18 else false) ((({s with Own:=(-1)}: Procs),[],r28tell 7 0)) ((s,[],[]))))))
def r28hInfo.dec (cs:List (AV El)): Option (Procs×Control):= popA Procs.dec cs fun a0 c0=>popA Control.dec c0 fun a1 c1=>popE c1 (a0,a1)
def r28hInfo.enc (x:Procs×Control): List (AV El):= [Procs.av x.1,Control.av x.2]
theorem r28hInfo.dec_ok : ∀cs x,r28hInfo.dec cs=some x→Imp (S:=S) cs (r28hInfo.enc x):= by
 intro cs x h
 unfold r28hInfo.dec at h
 obtain ⟨a0,c0,h0,k0⟩:= popA_some (S:=S) Procs.dec_ok h
 obtain ⟨a1,c1,h1,k1⟩:= popA_some (S:=S) Control.dec_ok h0
 obtain ⟨rfl,rfl⟩:= popE_some (S:=S) h1
 exact (k0 _ (k1 _ (.refl _)))
def r28hInfo.nf (s:Procs) (c:Control) (v:Procs×(List Control)×(List Indication)): Prop:=cond (c.Kind==8) (r28hInfo.L ((({s with Common:=bandK IntKind.u64 s.Features c.Features,Known:=true}: Procs),r28one {Kind:=9,Update:={WinSize:=0,WinOffset:=0,Interval:=0,Latency:=0,Timeout:=0:Update},Map:=0,Instant:=0,Reason:=0,Rejected:=0,Salt:=0,Mark:=0,Features:=s.Features,Version:=0,Length:=0:Control},r28tell 5 (bandK IntKind.u64 s.Features c.Features))) v) (Ob (o3 (c.Kind==9))∧(Ob (o3 (c.Kind==9))∧(Ob (o2 (c.Kind==9))∧(cond (bif c.Kind==9 then s.Own==8 else false) (r28hInfo.L ((({s with Own:=(-1),Common:=bandK IntKind.u64 s.Features c.Features,Known:=true}: Procs),[],r28tell 5 (bandK IntKind.u64 s.Features c.Features))) v) (cond (c.Kind==12) (cond (s.Own==12) (r28hInfo.L ((({s with Own:=(-1),Version:=c.Version}: Procs),[],r28tell 6 (IntKind.wrap IntKind.u64 c.Version))) v) (cond (s.VersionTx) (r28hInfo.L ((({s with Version:=c.Version}: Procs),[],r28tell 6 (IntKind.wrap IntKind.u64 c.Version))) v) (r28hInfo.L ((({s with VersionTx:=true,Version:=c.Version}: Procs),r28one {Kind:=12,Update:={WinSize:=0,WinOffset:=0,Interval:=0,Latency:=0,Timeout:=0:Update},Map:=0,Instant:=0,Reason:=0,Rejected:=0,Salt:=0,Mark:=0,Features:=0,Version:=11,Length:=0:Control},r28tell 6 (IntKind.wrap IntKind.u64 c.Version))) v))) (cond (c.Kind==18) (r28hInfo.L ((s,r28one {Kind:=19,Update:={WinSize:=0,WinOffset:=0,Interval:=0,Latency:=0,Timeout:=0:Update},Map:=0,Instant:=0,Reason:=0,Rejected:=0,Salt:=0,Mark:=0,Features:=0,Version:=0,Length:=0:Control},[])) v) (Ob (o3 (c.Kind==19))∧(Ob (o3 (c.Kind==19))∧(Ob (o2 (c.Kind==19))∧(cond (bif c.Kind==19 then s.Own==18 else false) (r28hInfo.L ((({s with Own:=(-1)}: Procs),[],r28tell 7 0)) v) (r28hInfo.L ((s,[],[])) v)))))))))))
theorem r28hInfo.nf_ok (s:Procs) (c:Control) (v:Procs×(List Control)×(List Indication)): evFun (mkCx Tryz.prog S tab_r27Due 0) 4 54 [Procs.av s,Control.av c] [] (fun r' H'=>Gives r' H' (r28hInfo.res v) (r28hInfo.news v))= r28hInfo.nf s c v:=by kernel_rfl
theorem r28hInfo.key (s:Procs) (c:Control) (v:Procs×(List Control)×(List Indication)) (hv:v=r28hInfo s c): r28hInfo.nf s c v:=by
 unfold r28hInfo at hv
 unfold r28hInfo.nf
 revert hv;refine by_cond2 (fun hb hv=>?_) (fun hb hv=>?_)
 ·subst hv;exact ⟨rfl,rfl⟩
 ·refine ⟨⟨o3_ok _⟩, ?_⟩
  refine ⟨⟨o3_ok _⟩, ?_⟩
  refine ⟨⟨o2_ok _⟩, ?_⟩
  revert hv;refine by_cond2 (fun hb hv=>?_) (fun hb hv=>?_)
  ·subst hv;exact ⟨rfl,rfl⟩
  ·revert hv;refine by_cond2 (fun hb hv=>?_) (fun hb hv=>?_)
   ·revert hv;refine by_cond2 (fun hb hv=>?_) (fun hb hv=>?_)
    ·subst hv;exact ⟨rfl,rfl⟩
    ·revert hv;refine by_cond2 (fun hb hv=>?_) (fun hb hv=>?_)
     ·subst hv;exact ⟨rfl,rfl⟩
     ·subst hv;exact ⟨rfl,rfl⟩
   ·revert hv;refine by_cond2 (fun hb hv=>?_) (fun hb hv=>?_)
    ·subst hv;exact ⟨rfl,rfl⟩
    ·refine ⟨⟨o3_ok _⟩, ?_⟩
     refine ⟨⟨o3_ok _⟩, ?_⟩
     refine ⟨⟨o2_ok _⟩, ?_⟩
     revert hv;refine by_cond2 (fun hb hv=>?_) (fun hb hv=>?_)
     ·subst hv;exact ⟨rfl,rfl⟩
     ·subst hv;exact ⟨rfl,rfl⟩
def r28hInfo.ct:Ct El:=ctOf r28hInfo.dec (fun _=>[]) (fun x=>r28hInfo.res (r28hInfo x.1 x.2)) (fun x=>r28hInfo.news (r28hInfo x.1 x.2))
theorem r28hInfo.ok:CtOk (mkCx Tryz.prog S [] 0) 54 r28hInfo.ct:=ct_mk (C:=(mkCx Tryz.prog S tab_r27Due 0)) (mkCx_ok sigOk mixed tab_r27Due_ok 0) r28hInfo.dec_ok (fun x=>rfl) 4 (fun x _=>(r28hInfo.nf_ok x.1 x.2 _).mpr (r28hInfo.key x.1 x.2 _ rfl))
def tab_r28hInfo:List (FuncId×Ct El):= (54,r28hInfo.ct):: tab_r28hLength
theorem tab_r28hInfo_ok:TabOk Tryz.prog S tab_r28hInfo:=⟨r28hInfo.ok,by kernel_rfl,tab_r28hLength_ok⟩
def r28Handle.res (r:Procs×(List Control)×(List Indication)): AV El:=.tup [Procs.av (r.1), .sl 37 (r.2.1:List (El 37)) false, .sl 57 (r.2.2:List (El 57)) false]
def r28Handle.news (r:Procs×(List Control)×(List Indication)): List (AObj El):= []
def r28Handle.L (e v:Procs×(List Control)×(List Indication)): Prop:=r28Handle.res e=r28Handle.res v∧r28Handle.news e=r28Handle.news v
def r28Handle (s:Procs) (c:Control) (event:Int) (now:Int): Procs×(List Control)×(List Indication):= cond (s.Ended != 0) ((s,[],[])) (cond (!(r26Fields c.Kind).Known) ((s,r28one {Kind:=7,Update:={WinSize:=0,WinOffset:=0,Interval:=0,Latency:=0,Timeout:=0:Update},Map:=0,Instant:=0,Reason:=0,Rejected:=minI (maxI c.Kind 0) 255,Salt:=0,Mark:=0,Features:=0,Version:=0,Length:=0:Control},[])) (cond (c.Kind==0) (((r28hChange s c event now),[],[])) (cond (c.Kind==1) (((r28hChange s c event now),[],[])) (cond (c.Kind==2) (cond (c.Reason==0) ((({s with Ended:=19}: Procs),[],[])) ((({s with Ended:=c.Reason}: Procs),[],[]))) (cond (c.Kind==3) (((r28hCrypt s c now).fst,(r28hCrypt s c now).snd.fst,(r28hCrypt s c now).snd.snd)) (cond (c.Kind==4) (((r28hCrypt s c now).fst,(r28hCrypt s c now).snd.fst,(r28hCrypt s c now).snd.snd)) (cond (c.Kind==5) (((r28hCrypt s c now).fst,(r28hCrypt s c now).snd.fst,(r28hCrypt s c now).snd.snd)) (cond (c.Kind==6) (((r28hCrypt s c now).fst,(r28hCrypt s c now).snd.fst,(r28hCrypt s c now).snd.snd)) (cond (c.Kind==7) (((r28hReject s c).fst,(r28hReject s c).snd.fst,(r28hReject s c).snd.snd)) (cond (c.Kind==13) (((r28hReject s c).fst,(r28hReject s c).snd.fst,(r28hReject s c).snd.snd)) (cond (c.Kind==15) (((r28hParams s c now).fst,(r28hParams s c now).snd.fst,(r28hParams s c now).snd.snd)) (cond (c.Kind==20) (((r28hLength s c).fst,(r28hLength s c).snd.fst,(r28hLength s c).snd.snd)) (cond (c.Kind==21) (((r28hLength s c).fst,(r28hLength s c).snd.fst,(r28hLength s c).snd.snd)) (((r28hInfo s c).fst,(r28hInfo s c).snd.fst,(r28hInfo s c).snd.snd)))))))))))))))
def r28Handle.dec (cs:List (AV El)): Option (Procs×Control×Int×Int):= popA Procs.dec cs fun a0 c0=>popA Control.dec c0 fun a1 c1=>popI .u16 c1 fun a2 c2=>popI .i64 c2 fun a3 c3=>popE c3 (a0,a1,a2,a3)
def r28Handle.enc (x:Procs×Control×Int×Int): List (AV El):= [Procs.av x.1,Control.av x.2.1, .v (.int .u16 x.2.2.1), .v (.int .i64 x.2.2.2)]
theorem r28Handle.dec_ok : ∀cs x,r28Handle.dec cs=some x→Imp (S:=S) cs (r28Handle.enc x):= by
 intro cs x h
 unfold r28Handle.dec at h
 obtain ⟨a0,c0,h0,k0⟩:= popA_some (S:=S) Procs.dec_ok h
 obtain ⟨a1,c1,h1,k1⟩:= popA_some (S:=S) Control.dec_ok h0
 obtain ⟨a2,c2,rfl,h2⟩:= popI_some (S:=S) h1
 obtain ⟨a3,c3,rfl,h3⟩:= popI_some (S:=S) h2
 obtain ⟨rfl,rfl⟩:= popE_some (S:=S) h3
 exact (k0 _ (k1 _ (.cons (.cons (.refl _)))))
def r28Handle.nf (s:Procs) (c:Control) (event:Int) (now:Int) (v:Procs×(List Control)×(List Indication)): Prop:=cond (s.Ended != 0) (r28Handle.L ((s,[],[])) v) (cond (!(r26Fields c.Kind).Known) (r28Handle.L ((s,r28one {Kind:=7,Update:={WinSize:=0,WinOffset:=0,Interval:=0,Latency:=0,Timeout:=0:Update},Map:=0,Instant:=0,Reason:=0,Rejected:=minI (maxI c.Kind 0) 255,Salt:=0,Mark:=0,Features:=0,Version:=0,Length:=0:Control},[])) v) (cond (c.Kind==0) (Ob (List.length s.Pending≤(1000:Nat))∧(r28Handle.L (((r28hChange s c event now),[],[])) v)) (cond (c.Kind==1) (Ob (List.length s.Pending≤(1000:Nat))∧(r28Handle.L (((r28hChange s c event now),[],[])) v)) (cond (c.Kind==2) (cond (c.Reason==0) (r28Handle.L ((({s with Ended:=19}: Procs),[],[])) v) (r28Handle.L ((({s with Ended:=c.Reason}: Procs),[],[])) v)) (cond (c.Kind==3) (r28Handle.L (((r28hCrypt s c now).fst,(r28hCrypt s c now).snd.fst,(r28hCrypt s c now).snd.snd)) v) (cond (c.Kind==4) (r28Handle.L (((r28hCrypt s c now).fst,(r28hCrypt s c now).snd.fst,(r28hCrypt s c now).snd.snd)) v) (cond (c.Kind==5) (r28Handle.L (((r28hCrypt s c now).fst,(r28hCrypt s c now).snd.fst,(r28hCrypt s c now).snd.snd)) v) (cond (c.Kind==6) (r28Handle.L (((r28hCrypt s c now).fst,(r28hCrypt s c now).snd.fst,(r28hCrypt s c now).snd.snd)) v) (cond (c.Kind==7) (r28Handle.L (((r28hReject s c).fst,(r28hReject s c).snd.fst,(r28hReject s c).snd.snd)) v) (cond (c.Kind==13) (r28Handle.L (((r28hReject s c).fst,(r28hReject s c).snd.fst,(r28hReject s c).snd.snd)) v) (cond (c.Kind==15) (r28Handle.L (((r28hParams s c now).fst,(r28hParams s c now).snd.fst,(r28hParams s c now).snd.snd)) v) (cond (c.Kind==20) (r28Handle.L (((r28hLength s c).fst,(r28hLength s c).snd.fst,(r28hLength s c).snd.snd)) v) (cond (c.Kind==21) (r28Handle.L (((r28hLength s c).fst,(r28hLength s c).snd.fst,(r28hLength s c).snd.snd)) v) (r28Handle.L (((r28hInfo s c).fst,(r28hInfo s c).snd.fst,(r28hInfo s c).snd.snd)) v))))))))))))))
theorem r28Handle.nf_ok (s:Procs) (c:Control) (event:Int) (now:Int) (v:Procs×(List Control)×(List Indication)): evFun (mkCx Tryz.prog S tab_r28hInfo 0) 4 16 [Procs.av s,Control.av c, .v (.int .u16 event), .v (.int .i64 now)] [] (fun r' H'=>Gives r' H' (r28Handle.res v) (r28Handle.news v))= r28Handle.nf s c event now v:=by kernel_rfl
theorem r28Handle.key (s:Procs) (c:Control) (event:Int) (now:Int) (hp:s.Pending.length≤1000) (v:Procs×(List Control)×(List Indication)) (hv:v=r28Handle s c event now): r28Handle.nf s c event now v:=by
 unfold r28Handle at hv
 unfold r28Handle.nf
 revert hv;refine by_cond2 (fun hb hv=>?_) (fun hb hv=>?_)
 subst hv;exact ⟨rfl,rfl⟩
 revert hv;refine by_cond2 (fun hb hv=>?_) (fun hb hv=>?_)
 subst hv;exact ⟨rfl,rfl⟩
 revert hv;refine by_cond2 (fun hb hv=>?_) (fun hb hv=>?_)
 refine ⟨⟨?_⟩, ?_⟩;rotate_left
 subst hv;exact ⟨rfl,rfl⟩
 revert hv;refine by_cond2 (fun hb hv=>?_) (fun hb hv=>?_)
 refine ⟨⟨?_⟩, ?_⟩;rotate_left
 subst hv;exact ⟨rfl,rfl⟩
 revert hv;refine by_cond2 (fun hb hv=>?_) (fun hb hv=>?_)
 revert hv;refine by_cond2 (fun hb hv=>?_) (fun hb hv=>?_)
 subst hv;exact ⟨rfl,rfl⟩
 subst hv;exact ⟨rfl,rfl⟩
 revert hv;refine by_cond2 (fun hb hv=>?_) (fun hb hv=>?_)
 subst hv;exact ⟨rfl,rfl⟩
 revert hv;refine by_cond2 (fun hb hv=>?_) (fun hb hv=>?_)
 subst hv;exact ⟨rfl,rfl⟩
 revert hv;refine by_cond2 (fun hb hv=>?_) (fun hb hv=>?_)
 subst hv;exact ⟨rfl,rfl⟩
 revert hv;refine by_cond2 (fun hb hv=>?_) (fun hb hv=>?_)
 subst hv;exact ⟨rfl,rfl⟩
 revert hv;refine by_cond2 (fun hb hv=>?_) (fun hb hv=>?_)
 subst hv;exact ⟨rfl,rfl⟩
 revert hv;refine by_cond2 (fun hb hv=>?_) (fun hb hv=>?_)
 subst hv;exact ⟨rfl,rfl⟩
 revert hv;refine by_cond2 (fun hb hv=>?_) (fun hb hv=>?_)
 subst hv;exact ⟨rfl,rfl⟩
 revert hv;refine by_cond2 (fun hb hv=>?_) (fun hb hv=>?_)
 subst hv;exact ⟨rfl,rfl⟩
 revert hv;refine by_cond2 (fun hb hv=>?_) (fun hb hv=>?_)
 subst hv;exact ⟨rfl,rfl⟩
 subst hv;exact ⟨rfl,rfl⟩
 all_goals ((try clear hv);(try clear q1 q2);(try clear hk);(omega))
def r28Handle.ct:Ct El:=ctOf r28Handle.dec (fun x=>[x.1.Pending.length≤1000]) (fun x=>r28Handle.res (r28Handle x.1 x.2.1 x.2.2.1 x.2.2.2)) (fun x=>r28Handle.news (r28Handle x.1 x.2.1 x.2.2.1 x.2.2.2))
theorem r28Handle.ok:CtOk (mkCx Tryz.prog S [] 0) 16 r28Handle.ct:=ct_mk (C:=(mkCx Tryz.prog S tab_r28hInfo 0)) (mkCx_ok sigOk mixed tab_r28hInfo_ok 0) r28Handle.dec_ok (fun x=>rfl) 4 (fun x hp=>(r28Handle.nf_ok x.1 x.2.1 x.2.2.1 x.2.2.2 _).mpr (r28Handle.key x.1 x.2.1 x.2.2.1 x.2.2.2 (hp _ (List.mem_singleton.2 rfl)) _ rfl))
def tab_r28Handle:List (FuncId×Ct El):= (16,r28Handle.ct):: tab_r28hInfo
theorem tab_r28Handle_ok:TabOk Tryz.prog S tab_r28Handle:=⟨r28Handle.ok,by kernel_rfl,tab_r28hInfo_ok⟩
end Go.Aw.W
