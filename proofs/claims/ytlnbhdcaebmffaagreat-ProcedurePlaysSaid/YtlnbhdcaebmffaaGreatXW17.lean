/- Contracts of the seat (printed by ct.py). -/
import Derived.Test.YtlnbhdcaebmffaaGreatXW16
set_option linter.unusedVariables false
set_option linter.unusedSimpArgs false
set_option maxRecDepth 20000
set_option maxHeartbeats 1000000
namespace Go.Aw.W
open Go Go.Aw Go.Proofs
attribute [local irreducible] evCode evFun evOps evDs evOne ctxK loopK loopB subC bodyC headS okH roundK
attribute [local irreducible] cCheck
def r1Diff.res (r:Int): AV El:=.v (.int .i64 (r))
def r1Diff.news (r:Int): List (AObj El):= []
def r1Diff.L (e v:Int): Prop:=r1Diff.res e=r1Diff.res v∧r1Diff.news e=r1Diff.news v
def r1Diff (a:Int) (b:Int): Int:=cond (decide (IntKind.wrap IntKind.i64 (IntKind.wrap IntKind.i64 b - IntKind.wrap IntKind.i64 a) < (-32768))) (cond (decide (32767 < IntKind.wrap IntKind.i64 (IntKind.wrap IntKind.i64 (IntKind.wrap IntKind.i64 b - IntKind.wrap IntKind.i64 a)+ 65536))) (IntKind.wrap IntKind.i64 (IntKind.wrap IntKind.i64 (IntKind.wrap IntKind.i64 (IntKind.wrap IntKind.i64 b - IntKind.wrap IntKind.i64 a)+ (65536:Int)) - (65536:Int))) (IntKind.wrap IntKind.i64 (IntKind.wrap IntKind.i64 (IntKind.wrap IntKind.i64 b - IntKind.wrap IntKind.i64 a)+ 65536))) (cond (decide (32767 < IntKind.wrap IntKind.i64 (IntKind.wrap IntKind.i64 b - IntKind.wrap IntKind.i64 a))) (IntKind.wrap IntKind.i64 (IntKind.wrap IntKind.i64 (IntKind.wrap IntKind.i64 b - IntKind.wrap IntKind.i64 a) - 65536)) (IntKind.wrap IntKind.i64 (IntKind.wrap IntKind.i64 b - IntKind.wrap IntKind.i64 a)))
def r1Diff.dec (cs:List (AV El)): Option (Int×Int):= popI .u16 cs fun a0 c0=>popI .u16 c0 fun a1 c1=>popE c1 (a0,a1)
def r1Diff.enc (x:Int×Int): List (AV El):= [.v (.int .u16 x.1), .v (.int .u16 x.2)]
theorem r1Diff.dec_ok : ∀cs x,r1Diff.dec cs=some x→Imp (S:=S) cs (r1Diff.enc x):= by
 intro cs x h
 unfold r1Diff.dec at h
 obtain ⟨a0,c0,rfl,h0⟩:= popI_some (S:=S) h
 obtain ⟨a1,c1,rfl,h1⟩:= popI_some (S:=S) h0
 obtain ⟨rfl,rfl⟩:= popE_some (S:=S) h1
 exact (.cons (.cons (.refl _)))
def r1Diff.nf (a:Int) (b:Int) (v:Int): Prop:=cond (decide (IntKind.wrap IntKind.i64 (IntKind.wrap IntKind.i64 b - IntKind.wrap IntKind.i64 a) < (-32768))) (cond (decide (32767 < IntKind.wrap IntKind.i64 (IntKind.wrap IntKind.i64 (IntKind.wrap IntKind.i64 b - IntKind.wrap IntKind.i64 a)+ 65536))) (r1Diff.L (IntKind.wrap IntKind.i64 (IntKind.wrap IntKind.i64 (IntKind.wrap IntKind.i64 (IntKind.wrap IntKind.i64 b - IntKind.wrap IntKind.i64 a)+ (65536:Int)) - (65536:Int))) v) (r1Diff.L (IntKind.wrap IntKind.i64 (IntKind.wrap IntKind.i64 (IntKind.wrap IntKind.i64 b - IntKind.wrap IntKind.i64 a)+ 65536)) v)) (cond (decide (32767 < IntKind.wrap IntKind.i64 (IntKind.wrap IntKind.i64 b - IntKind.wrap IntKind.i64 a))) (r1Diff.L (IntKind.wrap IntKind.i64 (IntKind.wrap IntKind.i64 (IntKind.wrap IntKind.i64 b - IntKind.wrap IntKind.i64 a) - 65536)) v) (r1Diff.L (IntKind.wrap IntKind.i64 (IntKind.wrap IntKind.i64 b - IntKind.wrap IntKind.i64 a)) v))
theorem r1Diff.nf_ok (a:Int) (b:Int) (v:Int): evFun (mkCx Tryz.prog S tab_r26Check 0) 4 135 [.v (.int .u16 a), .v (.int .u16 b)] [] (fun r' H'=>Gives r' H' (r1Diff.res v) (r1Diff.news v))= r1Diff.nf a b v:=by kernel_rfl
theorem r1Diff.key (a:Int) (b:Int) (v:Int) (hv:v=r1Diff a b): r1Diff.nf a b v:=by
 unfold r1Diff at hv
 unfold r1Diff.nf
 revert hv;refine by_cond2 (fun hb hv=>?_) (fun hb hv=>?_)
 ·revert hv;refine by_cond2 (fun hb hv=>?_) (fun hb hv=>?_)
  ·subst hv;exact ⟨rfl,rfl⟩
  ·subst hv;exact ⟨rfl,rfl⟩
 ·revert hv;refine by_cond2 (fun hb hv=>?_) (fun hb hv=>?_)
  ·subst hv;exact ⟨rfl,rfl⟩
  ·subst hv;exact ⟨rfl,rfl⟩
def r1Diff.ct:Ct El:=ctOf r1Diff.dec (fun _=>[]) (fun x=>r1Diff.res (r1Diff x.1 x.2)) (fun x=>r1Diff.news (r1Diff x.1 x.2))
theorem r1Diff.ok:CtOk (mkCx Tryz.prog S [] 0) 135 r1Diff.ct:=ct_mk (C:=(mkCx Tryz.prog S tab_r26Check 0)) (mkCx_ok sigOk mixed tab_r26Check_ok 0) r1Diff.dec_ok (fun x=>rfl) 4 (fun x _=>(r1Diff.nf_ok x.1 x.2 _).mpr (r1Diff.key x.1 x.2 _ rfl))
def tab_r1Diff:List (FuncId×Ct El):= (135,r1Diff.ct):: tab_r26Check
theorem tab_r1Diff_ok:TabOk Tryz.prog S tab_r1Diff:=⟨r1Diff.ok,by kernel_rfl,tab_r26Check_ok⟩
def r1Add.res (r:Int): AV El:=.v (.int .u16 (r))
def r1Add.news (r:Int): List (AObj El):= []
def r1Add.L (e v:Int): Prop:=r1Add.res e=r1Add.res v∧r1Add.news e=r1Add.news v
def r1Add (a:Int) (n:Int): Int:=IntKind.wrap IntKind.u16 (Int.tmod (IntKind.wrap IntKind.i64 (IntKind.wrap IntKind.i64 (IntKind.wrap IntKind.i64 a+Int.tmod n (65536:Int))+ (65536:Int))) (65536:Int))
def r1Add.dec (cs:List (AV El)): Option (Int×Int):= popI .u16 cs fun a0 c0=>popI .i64 c0 fun a1 c1=>popE c1 (a0,a1)
def r1Add.enc (x:Int×Int): List (AV El):= [.v (.int .u16 x.1), .v (.int .i64 x.2)]
theorem r1Add.dec_ok : ∀cs x,r1Add.dec cs=some x→Imp (S:=S) cs (r1Add.enc x):= by
 intro cs x h
 unfold r1Add.dec at h
 obtain ⟨a0,c0,rfl,h0⟩:= popI_some (S:=S) h
 obtain ⟨a1,c1,rfl,h1⟩:= popI_some (S:=S) h0
 obtain ⟨rfl,rfl⟩:= popE_some (S:=S) h1
 exact (.cons (.cons (.refl _)))
def r1Add.nf (a:Int) (n:Int) (v:Int): Prop:=Ob ((65536:Int)≠(0:Int))∧(Ob ((65536:Int)≠(0:Int))∧(r1Add.L (IntKind.wrap IntKind.u16 (Int.tmod (IntKind.wrap IntKind.i64 (IntKind.wrap IntKind.i64 (IntKind.wrap IntKind.i64 a+Int.tmod n (65536:Int))+ (65536:Int))) 65536)) v))
theorem r1Add.nf_ok (a:Int) (n:Int) (v:Int): evFun (mkCx Tryz.prog S tab_r26Check 0) 4 131 [.v (.int .u16 a), .v (.int .i64 n)] [] (fun r' H'=>Gives r' H' (r1Add.res v) (r1Add.news v))= r1Add.nf a n v:=by kernel_rfl
theorem r1Add.key (a:Int) (n:Int) (v:Int) (hv:v=r1Add a n): r1Add.nf a n v:=by
 unfold r1Add at hv
 unfold r1Add.nf
 refine ⟨⟨?_⟩, ?_⟩;rotate_left
 refine ⟨⟨?_⟩, ?_⟩;rotate_left
 subst hv;exact ⟨rfl,rfl⟩
 all_goals ((try clear hv);(try clear q1 q2);(try clear hk);(omega))
def r1Add.ct:Ct El:=ctOf r1Add.dec (fun _=>[]) (fun x=>r1Add.res (r1Add x.1 x.2)) (fun x=>r1Add.news (r1Add x.1 x.2))
theorem r1Add.ok:CtOk (mkCx Tryz.prog S [] 0) 131 r1Add.ct:=ct_mk (C:=(mkCx Tryz.prog S tab_r26Check 0)) (mkCx_ok sigOk mixed tab_r26Check_ok 0) r1Add.dec_ok (fun x=>rfl) 4 (fun x _=>(r1Add.nf_ok x.1 x.2 _).mpr (r1Add.key x.1 x.2 _ rfl))
def tab_r1Add:List (FuncId×Ct El):= (131,r1Add.ct):: tab_r1Diff
theorem tab_r1Add_ok:TabOk Tryz.prog S tab_r1Add:=⟨r1Add.ok,by kernel_rfl,tab_r1Diff_ok⟩
def r28timed.res (r:Bool): AV El:=.v (.bool (r))
def r28timed.news (r:Bool): List (AObj El):= []
def r28timed.L (e v:Bool): Prop:=r28timed.res e=r28timed.res v∧r28timed.news e=r28timed.news v
def r28timed (kind:Int): Bool:=bif kind==(0:Int) then true else kind==(1:Int)
def r28timed.dec (cs:List (AV El)): Option (Int):= popI .i64 cs fun a0 c0=>popE c0 a0
def r28timed.enc (x:Int): List (AV El):= [.v (.int .i64 x)]
theorem r28timed.dec_ok : ∀cs x,r28timed.dec cs=some x→Imp (S:=S) cs (r28timed.enc x):= by
 intro cs x h
 unfold r28timed.dec at h
 obtain ⟨a0,c0,rfl,h0⟩:= popI_some (S:=S) h
 obtain ⟨rfl,rfl⟩:= popE_some (S:=S) h0
 exact (.cons (.refl _))
def r28timed.nf (kind:Int) (v:Bool): Prop:=Ob (o3 (!kind==(0:Int)))∧(Ob (on (kind==(0:Int)))∧(r28timed.L (bif kind==(0:Int) then true else kind==(1:Int)) v))
theorem r28timed.nf_ok (kind:Int) (v:Bool): evFun (mkCx Tryz.prog S tab_r26Check 0) 4 56 [.v (.int .i64 kind)] [] (fun r' H'=>Gives r' H' (r28timed.res v) (r28timed.news v))= r28timed.nf kind v:=by kernel_rfl
theorem r28timed.key (kind:Int) (v:Bool) (hv:v=r28timed kind): r28timed.nf kind v:=by
 unfold r28timed at hv
 unfold r28timed.nf
 refine ⟨⟨o3_ok _⟩, ?_⟩
 refine ⟨⟨on_ok _⟩, ?_⟩
 subst hv;exact ⟨rfl,rfl⟩
def r28timed.ct:Ct El:=ctOf r28timed.dec (fun _=>[]) (fun x=>r28timed.res (r28timed x)) (fun x=>r28timed.news (r28timed x))
theorem r28timed.ok:CtOk (mkCx Tryz.prog S [] 0) 56 r28timed.ct:=ct_mk (C:=(mkCx Tryz.prog S tab_r26Check 0)) (mkCx_ok sigOk mixed tab_r26Check_ok 0) r28timed.dec_ok (fun x=>rfl) 4 (fun x _=>(r28timed.nf_ok x _).mpr (r28timed.key x _ rfl))
def tab_r28timed:List (FuncId×Ct El):= (56,r28timed.ct):: tab_r1Add
theorem tab_r28timed_ok:TabOk Tryz.prog S tab_r28timed:=⟨r28timed.ok,by kernel_rfl,tab_r1Add_ok⟩
def r28isRequest.res (r:Bool): AV El:=.v (.bool (r))
def r28isRequest.news (r:Bool): List (AObj El):= []
def r28isRequest.L (e v:Bool): Prop:=r28isRequest.res e=r28isRequest.res v∧r28isRequest.news e=r28isRequest.news v
def r28isRequest (kind:Int): Bool:=bif (r26Fields kind).Known then r26Proc kind==kind else false
def r28isRequest.dec (cs:List (AV El)): Option (Int):= popI .i64 cs fun a0 c0=>popE c0 a0
def r28isRequest.enc (x:Int): List (AV El):= [.v (.int .i64 x)]
theorem r28isRequest.dec_ok : ∀cs x,r28isRequest.dec cs=some x→Imp (S:=S) cs (r28isRequest.enc x):= by
 intro cs x h
 unfold r28isRequest.dec at h
 obtain ⟨a0,c0,rfl,h0⟩:= popI_some (S:=S) h
 obtain ⟨rfl,rfl⟩:= popE_some (S:=S) h0
 exact (.cons (.refl _))
def r28isRequest.nf (kind:Int) (v:Bool): Prop:=Ob (o3 ((r26Fields kind).Known))∧(Ob (o3 ((r26Fields kind).Known))∧(Ob (o3 ((r26Fields kind).Known))∧(Ob (o2 ((r26Fields kind).Known))∧(r28isRequest.L (bif (r26Fields kind).Known then r26Proc kind==kind else false) v))))
theorem r28isRequest.nf_ok (kind:Int) (v:Bool): evFun (mkCx Tryz.prog S tab_r26Check 0) 4 38 [.v (.int .i64 kind)] [] (fun r' H'=>Gives r' H' (r28isRequest.res v) (r28isRequest.news v))= r28isRequest.nf kind v:=by kernel_rfl
theorem r28isRequest.key (kind:Int) (v:Bool) (hv:v=r28isRequest kind): r28isRequest.nf kind v:=by
 unfold r28isRequest at hv
 unfold r28isRequest.nf
 iterate 3 refine ⟨⟨o3_ok _⟩, ?_⟩
 refine ⟨⟨o2_ok _⟩, ?_⟩
 subst hv;exact ⟨rfl,rfl⟩
def r28isRequest.ct:Ct El:=ctOf r28isRequest.dec (fun _=>[]) (fun x=>r28isRequest.res (r28isRequest x)) (fun x=>r28isRequest.news (r28isRequest x))
theorem r28isRequest.ok:CtOk (mkCx Tryz.prog S [] 0) 38 r28isRequest.ct:=ct_mk (C:=(mkCx Tryz.prog S tab_r26Check 0)) (mkCx_ok sigOk mixed tab_r26Check_ok 0) r28isRequest.dec_ok (fun x=>rfl) 4 (fun x _=>(r28isRequest.nf_ok x _).mpr (r28isRequest.key x _ rfl))
def tab_r28isRequest:List (FuncId×Ct El):= (38,r28isRequest.ct):: tab_r28timed
theorem tab_r28isRequest_ok:TabOk Tryz.prog S tab_r28isRequest:=⟨r28isRequest.ok,by kernel_rfl,tab_r28timed_ok⟩
def r28change.res (r:Change): AV El:=Change.av (r)
def r28change.news (r:Change): List (AObj El):= []
def r28change.L (e v:Change): Prop:=r28change.res e=r28change.res v∧r28change.news e=r28change.news v
def r28change (c:Control): Change:=(⟨(c.Kind),(c.Instant),⟨(c.Update.WinSize),(c.Update.WinOffset),(c.Update.Interval),(c.Update.Latency),(c.Update.Timeout)⟩,(c.Map)⟩: Change)
def r28change.dec (cs:List (AV El)): Option (Control):= popA Control.dec cs fun a0 c0=>popE c0 a0
def r28change.enc (x:Control): List (AV El):= [Control.av x]
theorem r28change.dec_ok : ∀cs x,r28change.dec cs=some x→Imp (S:=S) cs (r28change.enc x):= by
 intro cs x h
 unfold r28change.dec at h
 obtain ⟨a0,c0,h0,k0⟩:= popA_some (S:=S) Control.dec_ok h
 obtain ⟨rfl,rfl⟩:= popE_some (S:=S) h0
 exact (k0 _ (.refl _))
def r28change.nf (c:Control) (v:Change): Prop:=r28change.L ((⟨(c.Kind),(c.Instant),⟨(c.Update.WinSize),(c.Update.WinOffset),(c.Update.Interval),(c.Update.Latency),(c.Update.Timeout)⟩,(c.Map)⟩: Change)) v
theorem r28change.nf_ok (c:Control) (v:Change): evFun (mkCx Tryz.prog S tab_r26Check 0) 4 86 [Control.av c] [] (fun r' H'=>Gives r' H' (r28change.res v) (r28change.news v))= r28change.nf c v:=by kernel_rfl
theorem r28change.key (c:Control) (v:Change) (hv:v=r28change c): r28change.nf c v:=by
 unfold r28change at hv
 unfold r28change.nf
 subst hv;exact ⟨rfl,rfl⟩
def r28change.ct:Ct El:=ctOf r28change.dec (fun _=>[]) (fun x=>r28change.res (r28change x)) (fun x=>r28change.news (r28change x))
theorem r28change.ok:CtOk (mkCx Tryz.prog S [] 0) 86 r28change.ct:=ct_mk (C:=(mkCx Tryz.prog S tab_r26Check 0)) (mkCx_ok sigOk mixed tab_r26Check_ok 0) r28change.dec_ok (fun x=>rfl) 4 (fun x _=>(r28change.nf_ok x _).mpr (r28change.key x _ rfl))
def tab_r28change:List (FuncId×Ct El):= (86,r28change.ct):: tab_r28isRequest
theorem tab_r28change_ok:TabOk Tryz.prog S tab_r28change:=⟨r28change.ok,by kernel_rfl,tab_r28isRequest_ok⟩
def r28filled.res (r:Control): AV El:=Control.av (r)
def r28filled.news (r:Control): List (AObj El):= []
def r28filled.L (e v:Control): Prop:=r28filled.res e=r28filled.res v∧r28filled.news e=r28filled.news v
def r28filled (s:Procs) (c:Control): Control:=cond (c.Kind==8) (({c with Features:=s.Features}: Control)) (cond (c.Kind==12) (({c with Version:=11}: Control)) (cond (c.Kind==0) (({c with Instant:=0}: Control)) (cond (c.Kind==1) (({c with Instant:=0}: Control)) (c))))
def r28filled.dec (cs:List (AV El)): Option (Procs×Control):= popA Procs.dec cs fun a0 c0=>popA Control.dec c0 fun a1 c1=>popE c1 (a0,a1)
def r28filled.enc (x:Procs×Control): List (AV El):= [Procs.av x.1,Control.av x.2]
theorem r28filled.dec_ok : ∀cs x,r28filled.dec cs=some x→Imp (S:=S) cs (r28filled.enc x):= by
 intro cs x h
 unfold r28filled.dec at h
 obtain ⟨a0,c0,h0,k0⟩:= popA_some (S:=S) Procs.dec_ok h
 obtain ⟨a1,c1,h1,k1⟩:= popA_some (S:=S) Control.dec_ok h0
 obtain ⟨rfl,rfl⟩:= popE_some (S:=S) h1
 exact (k0 _ (k1 _ (.refl _)))
def r28filled.nf (s:Procs) (c:Control) (v:Control): Prop:=cond (c.Kind==8) (r28filled.L (({c with Features:=s.Features}: Control)) v) (cond (c.Kind==12) (r28filled.L (({c with Version:=11}: Control)) v) (cond (c.Kind==0) (r28filled.L (({c with Instant:=0}: Control)) v) (cond (c.Kind==1) (r28filled.L (({c with Instant:=0}: Control)) v) (r28filled.L (c) v))))
theorem r28filled.nf_ok (s:Procs) (c:Control) (v:Control): evFun (mkCx Tryz.prog S tab_r26Check 0) 4 39 [Procs.av s,Control.av c] [] (fun r' H'=>Gives r' H' (r28filled.res v) (r28filled.news v))= r28filled.nf s c v:=by kernel_rfl
theorem r28filled.key (s:Procs) (c:Control) (v:Control) (hv:v=r28filled s c): r28filled.nf s c v:=by
 unfold r28filled at hv
 unfold r28filled.nf
 revert hv;refine by_cond2 (fun hb hv=>?_) (fun hb hv=>?_)
 ·subst hv;exact ⟨rfl,rfl⟩
 ·revert hv;refine by_cond2 (fun hb hv=>?_) (fun hb hv=>?_)
  ·subst hv;exact ⟨rfl,rfl⟩
  ·revert hv;refine by_cond2 (fun hb hv=>?_) (fun hb hv=>?_)
   ·subst hv;exact ⟨rfl,rfl⟩
   ·revert hv;refine by_cond2 (fun hb hv=>?_) (fun hb hv=>?_)
    ·subst hv;exact ⟨rfl,rfl⟩
    ·subst hv;exact ⟨rfl,rfl⟩
def r28filled.ct:Ct El:=ctOf r28filled.dec (fun _=>[]) (fun x=>r28filled.res (r28filled x.1 x.2)) (fun x=>r28filled.news (r28filled x.1 x.2))
theorem r28filled.ok:CtOk (mkCx Tryz.prog S [] 0) 39 r28filled.ct:=ct_mk (C:=(mkCx Tryz.prog S tab_r26Check 0)) (mkCx_ok sigOk mixed tab_r26Check_ok 0) r28filled.dec_ok (fun x=>rfl) 4 (fun x _=>(r28filled.nf_ok x.1 x.2 _).mpr (r28filled.key x.1 x.2 _ rfl))
def tab_r28filled:List (FuncId×Ct El):= (39,r28filled.ct):: tab_r28change
theorem tab_r28filled_ok:TabOk Tryz.prog S tab_r28filled:=⟨r28filled.ok,by kernel_rfl,tab_r28change_ok⟩
def pLate.res (r:Bool): AV El:=.v (.bool (r))
def pLate.news (r:Bool): List (AObj El):= []
def pLate.L (e v:Bool): Prop:=pLate.res e=pLate.res v∧pLate.news e=pLate.news v
def pLate (kind:Int) (since:Int) (now:Int): Bool:=bif bif kind != (-1:Int) then !pChanges kind else false then decide ((40000000:Int) < IntKind.wrap IntKind.i64 (now - since)) else false
def pLate.dec (cs:List (AV El)): Option (Int×Int×Int):= popI .i64 cs fun a0 c0=>popI .i64 c0 fun a1 c1=>popI .i64 c1 fun a2 c2=>popE c2 (a0,a1,a2)
def pLate.enc (x:Int×Int×Int): List (AV El):= [.v (.int .i64 x.1), .v (.int .i64 x.2.1), .v (.int .i64 x.2.2)]
theorem pLate.dec_ok : ∀cs x,pLate.dec cs=some x→Imp (S:=S) cs (pLate.enc x):= by
 intro cs x h
 unfold pLate.dec at h
 obtain ⟨a0,c0,rfl,h0⟩:= popI_some (S:=S) h
 obtain ⟨a1,c1,rfl,h1⟩:= popI_some (S:=S) h0
 obtain ⟨a2,c2,rfl,h2⟩:= popI_some (S:=S) h1
 obtain ⟨rfl,rfl⟩:= popE_some (S:=S) h2
 exact (.cons (.cons (.cons (.refl _))))
def pLate.nf (kind:Int) (since:Int) (now:Int) (v:Bool): Prop:=Ob (o3 (kind != (-1)))∧(Ob (o3 (kind != (-1)))∧(Ob (o2 (kind != (-1)))∧(Ob (o3 (bif kind != (-1) then !pChanges kind else false))∧(Ob (o3 (bif kind != (-1) then !pChanges kind else false))∧(Ob (o3 (bif kind != (-1) then !pChanges kind else false))∧(Ob (o2 (bif kind != (-1) then !pChanges kind else false))∧(pLate.L (bif bif kind != (-1) then !pChanges kind else false then decide (40000000 < IntKind.wrap IntKind.i64 (now - since)) else false) v)))))))
theorem pLate.nf_ok (kind:Int) (since:Int) (now:Int) (v:Bool): evFun (mkCx Tryz.prog S tab_r26Check 0) 4 59 [.v (.int .i64 kind), .v (.int .i64 since), .v (.int .i64 now)] [] (fun r' H'=>Gives r' H' (pLate.res v) (pLate.news v))= pLate.nf kind since now v:=by kernel_rfl
theorem pLate.key (kind:Int) (since:Int) (now:Int) (v:Bool) (hv:v=pLate kind since now): pLate.nf kind since now v:=by
 unfold pLate at hv
 unfold pLate.nf
 iterate 2 refine ⟨⟨o3_ok _⟩, ?_⟩
 refine ⟨⟨o2_ok _⟩, ?_⟩
 iterate 3 refine ⟨⟨o3_ok _⟩, ?_⟩
 refine ⟨⟨o2_ok _⟩, ?_⟩
 subst hv;exact ⟨rfl,rfl⟩
def pLate.ct:Ct El:=ctOf pLate.dec (fun _=>[]) (fun x=>pLate.res (pLate x.1 x.2.1 x.2.2)) (fun x=>pLate.news (pLate x.1 x.2.1 x.2.2))
theorem pLate.ok:CtOk (mkCx Tryz.prog S [] 0) 59 pLate.ct:=ct_mk (C:=(mkCx Tryz.prog S tab_r26Check 0)) (mkCx_ok sigOk mixed tab_r26Check_ok 0) pLate.dec_ok (fun x=>rfl) 4 (fun x _=>(pLate.nf_ok x.1 x.2.1 x.2.2 _).mpr (pLate.key x.1 x.2.1 x.2.2 _ rfl))
def tab_pLate:List (FuncId×Ct El):= (59,pLate.ct):: tab_r28filled
theorem tab_pLate_ok:TabOk Tryz.prog S tab_pLate:=⟨pLate.ok,by kernel_rfl,tab_r28filled_ok⟩
def r28Quiet.res (r:Bool): AV El:=.v (.bool (r))
def r28Quiet.news (r:Bool): List (AObj El):= []
def r28Quiet.L (e v:Bool): Prop:=r28Quiet.res e=r28Quiet.res v∧r28Quiet.news e=r28Quiet.news v
def r28Quiet (s:Procs): Bool:=bif decide ((1:Int)≤s.Crypt) then decide (s.Crypt≤(3:Int)) else false
def r28Quiet.dec (cs:List (AV El)): Option (Procs):= popA Procs.dec cs fun a0 c0=>popE c0 a0
def r28Quiet.enc (x:Procs): List (AV El):= [Procs.av x]
theorem r28Quiet.dec_ok : ∀cs x,r28Quiet.dec cs=some x→Imp (S:=S) cs (r28Quiet.enc x):= by
 intro cs x h
 unfold r28Quiet.dec at h
 obtain ⟨a0,c0,h0,k0⟩:= popA_some (S:=S) Procs.dec_ok h
 obtain ⟨rfl,rfl⟩:= popE_some (S:=S) h0
 exact (k0 _ (.refl _))
def r28Quiet.nf (s:Procs) (v:Bool): Prop:=Ob (o3 (decide ((1:Int)≤s.Crypt)))∧(Ob (o3 (decide ((1:Int)≤s.Crypt)))∧(Ob (o2 (decide ((1:Int)≤s.Crypt)))∧(r28Quiet.L (bif decide ((1:Int)≤s.Crypt) then decide (s.Crypt≤(3:Int)) else false) v)))
theorem r28Quiet.nf_ok (s:Procs) (v:Bool): evFun (mkCx Tryz.prog S tab_r26Check 0) 4 26 [Procs.av s] [] (fun r' H'=>Gives r' H' (r28Quiet.res v) (r28Quiet.news v))= r28Quiet.nf s v:=by kernel_rfl
theorem r28Quiet.key (s:Procs) (v:Bool) (hv:v=r28Quiet s): r28Quiet.nf s v:=by
 unfold r28Quiet at hv
 unfold r28Quiet.nf
 iterate 2 refine ⟨⟨o3_ok _⟩, ?_⟩
 refine ⟨⟨o2_ok _⟩, ?_⟩
 subst hv;exact ⟨rfl,rfl⟩
def r28Quiet.ct:Ct El:=ctOf r28Quiet.dec (fun _=>[]) (fun x=>r28Quiet.res (r28Quiet x)) (fun x=>r28Quiet.news (r28Quiet x))
theorem r28Quiet.ok:CtOk (mkCx Tryz.prog S [] 0) 26 r28Quiet.ct:=ct_mk (C:=(mkCx Tryz.prog S tab_r26Check 0)) (mkCx_ok sigOk mixed tab_r26Check_ok 0) r28Quiet.dec_ok (fun x=>rfl) 4 (fun x _=>(r28Quiet.nf_ok x _).mpr (r28Quiet.key x _ rfl))
def tab_r28Quiet:List (FuncId×Ct El):= (26,r28Quiet.ct):: tab_pLate
theorem tab_r28Quiet_ok:TabOk Tryz.prog S tab_r28Quiet:=⟨r28Quiet.ok,by kernel_rfl,tab_pLate_ok⟩
def r1Passed.res (r:Bool): AV El:=.v (.bool (r))
def r1Passed.news (r:Bool): List (AObj El):= []
def r1Passed.L (e v:Bool): Prop:=r1Passed.res e=r1Passed.res v∧r1Passed.news e=r1Passed.news v
def r1Passed (now:Int) (instant:Int): Bool:=decide ((0:Int)≤r1Diff instant now)
def r1Passed.dec (cs:List (AV El)): Option (Int×Int):= popI .u16 cs fun a0 c0=>popI .u16 c0 fun a1 c1=>popE c1 (a0,a1)
def r1Passed.enc (x:Int×Int): List (AV El):= [.v (.int .u16 x.1), .v (.int .u16 x.2)]
theorem r1Passed.dec_ok : ∀cs x,r1Passed.dec cs=some x→Imp (S:=S) cs (r1Passed.enc x):= by
 intro cs x h
 unfold r1Passed.dec at h
 obtain ⟨a0,c0,rfl,h0⟩:= popI_some (S:=S) h
 obtain ⟨a1,c1,rfl,h1⟩:= popI_some (S:=S) h0
 obtain ⟨rfl,rfl⟩:= popE_some (S:=S) h1
 exact (.cons (.cons (.refl _)))
def r1Passed.nf (now:Int) (instant:Int) (v:Bool): Prop:=r1Passed.L (decide ((0:Int)≤r1Diff instant now)) v
theorem r1Passed.nf_ok (now:Int) (instant:Int) (v:Bool): evFun (mkCx Tryz.prog S tab_r28Quiet 0) 4 92 [.v (.int .u16 now), .v (.int .u16 instant)] [] (fun r' H'=>Gives r' H' (r1Passed.res v) (r1Passed.news v))= r1Passed.nf now instant v:=by kernel_rfl
theorem r1Passed.key (now:Int) (instant:Int) (v:Bool) (hv:v=r1Passed now instant): r1Passed.nf now instant v:=by
 unfold r1Passed at hv
 unfold r1Passed.nf
 subst hv;exact ⟨rfl,rfl⟩
def r1Passed.ct:Ct El:=ctOf r1Passed.dec (fun _=>[]) (fun x=>r1Passed.res (r1Passed x.1 x.2)) (fun x=>r1Passed.news (r1Passed x.1 x.2))
theorem r1Passed.ok:CtOk (mkCx Tryz.prog S [] 0) 92 r1Passed.ct:=ct_mk (C:=(mkCx Tryz.prog S tab_r28Quiet 0)) (mkCx_ok sigOk mixed tab_r28Quiet_ok 0) r1Passed.dec_ok (fun x=>rfl) 4 (fun x _=>(r1Passed.nf_ok x.1 x.2 _).mpr (r1Passed.key x.1 x.2 _ rfl))
def tab_r1Passed:List (FuncId×Ct El):= (92,r1Passed.ct):: tab_r28Quiet
theorem tab_r1Passed_ok:TabOk Tryz.prog S tab_r1Passed:=⟨r1Passed.ok,by kernel_rfl,tab_r28Quiet_ok⟩
def r27Plan.res (r:Int): AV El:=.v (.int .u16 (r))
def r27Plan.news (r:Int): List (AObj El):= []
def r27Plan.L (e v:Int): Prop:=r27Plan.res e=r27Plan.res v∧r27Plan.news e=r27Plan.news v
def r27Plan (event:Int) (latency:Int): Int:=r1Add event (IntKind.wrap IntKind.i64 ((6:Int)+ maxI (0:Int) (minI latency (499:Int))))
def r27Plan.dec (cs:List (AV El)): Option (Int×Int):= popI .u16 cs fun a0 c0=>popI .i64 c0 fun a1 c1=>popE c1 (a0,a1)
def r27Plan.enc (x:Int×Int): List (AV El):= [.v (.int .u16 x.1), .v (.int .i64 x.2)]
theorem r27Plan.dec_ok : ∀cs x,r27Plan.dec cs=some x→Imp (S:=S) cs (r27Plan.enc x):= by
 intro cs x h
 unfold r27Plan.dec at h
 obtain ⟨a0,c0,rfl,h0⟩:= popI_some (S:=S) h
 obtain ⟨a1,c1,rfl,h1⟩:= popI_some (S:=S) h0
 obtain ⟨rfl,rfl⟩:= popE_some (S:=S) h1
 exact (.cons (.cons (.refl _)))
def r27Plan.nf (event:Int) (latency:Int) (v:Int): Prop:=r27Plan.L (r1Add event (IntKind.wrap IntKind.i64 ((6:Int)+ maxI (0:Int) (minI latency (499:Int))))) v
theorem r27Plan.nf_ok (event:Int) (latency:Int) (v:Int): evFun (mkCx Tryz.prog S tab_r28Quiet 0) 4 84 [.v (.int .u16 event), .v (.int .i64 latency)] [] (fun r' H'=>Gives r' H' (r27Plan.res v) (r27Plan.news v))= r27Plan.nf event latency v:=by kernel_rfl
theorem r27Plan.key (event:Int) (latency:Int) (v:Int) (hv:v=r27Plan event latency): r27Plan.nf event latency v:=by
 unfold r27Plan at hv
 unfold r27Plan.nf
 subst hv;exact ⟨rfl,rfl⟩
def r27Plan.ct:Ct El:=ctOf r27Plan.dec (fun _=>[]) (fun x=>r27Plan.res (r27Plan x.1 x.2)) (fun x=>r27Plan.news (r27Plan x.1 x.2))
theorem r27Plan.ok:CtOk (mkCx Tryz.prog S [] 0) 84 r27Plan.ct:=ct_mk (C:=(mkCx Tryz.prog S tab_r28Quiet 0)) (mkCx_ok sigOk mixed tab_r28Quiet_ok 0) r27Plan.dec_ok (fun x=>rfl) 4 (fun x _=>(r27Plan.nf_ok x.1 x.2 _).mpr (r27Plan.key x.1 x.2 _ rfl))
def tab_r27Plan:List (FuncId×Ct El):= (84,r27Plan.ct):: tab_r1Passed
theorem tab_r27Plan_ok:TabOk Tryz.prog S tab_r27Plan:=⟨r27Plan.ok,by kernel_rfl,tab_r1Passed_ok⟩
def r28can.res (r:Bool): AV El:=.v (.bool (r))
def r28can.news (r:Bool): List (AObj El):= []
def r28can.L (e v:Bool): Prop:=r28can.res e=r28can.res v∧r28can.news e=r28can.news v
def r28can (s:Procs) (c:Control): Bool:=bif !r28timed c.Kind then true else (↑(List.length s.Pending): Int)== (0:Int)
def r28can.dec (cs:List (AV El)): Option (Procs×Control):= popA Procs.dec cs fun a0 c0=>popA Control.dec c0 fun a1 c1=>popE c1 (a0,a1)
def r28can.enc (x:Procs×Control): List (AV El):= [Procs.av x.1,Control.av x.2]
theorem r28can.dec_ok : ∀cs x,r28can.dec cs=some x→Imp (S:=S) cs (r28can.enc x):= by
 intro cs x h
 unfold r28can.dec at h
 obtain ⟨a0,c0,h0,k0⟩:= popA_some (S:=S) Procs.dec_ok h
 obtain ⟨a1,c1,h1,k1⟩:= popA_some (S:=S) Control.dec_ok h0
 obtain ⟨rfl,rfl⟩:= popE_some (S:=S) h1
 exact (k0 _ (k1 _ (.refl _)))
def r28can.nf (s:Procs) (c:Control) (v:Bool): Prop:=Ob (o3 (!!r28timed c.Kind))∧(Ob (o3 (!!r28timed c.Kind))∧(Ob (o3 (!!r28timed c.Kind))∧(Ob (on (!r28timed c.Kind))∧(r28can.L (bif !r28timed c.Kind then true else (↑(List.length s.Pending): Int)== (0:Int)) v))))
theorem r28can.nf_ok (s:Procs) (c:Control) (v:Bool): evFun (mkCx Tryz.prog S tab_r28Quiet 0) 4 41 [Procs.av s,Control.av c] [] (fun r' H'=>Gives r' H' (r28can.res v) (r28can.news v))= r28can.nf s c v:=by kernel_rfl
theorem r28can.key (s:Procs) (c:Control) (v:Bool) (hv:v=r28can s c): r28can.nf s c v:=by
 unfold r28can at hv
 unfold r28can.nf
 iterate 3 refine ⟨⟨o3_ok _⟩, ?_⟩
 refine ⟨⟨on_ok _⟩, ?_⟩
 subst hv;exact ⟨rfl,rfl⟩
def r28can.ct:Ct El:=ctOf r28can.dec (fun _=>[]) (fun x=>r28can.res (r28can x.1 x.2)) (fun x=>r28can.news (r28can x.1 x.2))
theorem r28can.ok:CtOk (mkCx Tryz.prog S [] 0) 41 r28can.ct:=ct_mk (C:=(mkCx Tryz.prog S tab_r28Quiet 0)) (mkCx_ok sigOk mixed tab_r28Quiet_ok 0) r28can.dec_ok (fun x=>rfl) 4 (fun x _=>(r28can.nf_ok x.1 x.2 _).mpr (r28can.key x.1 x.2 _ rfl))
def tab_r28can:List (FuncId×Ct El):= (41,r28can.ct):: tab_r27Plan
theorem tab_r28can_ok:TabOk Tryz.prog S tab_r28can:=⟨r28can.ok,by kernel_rfl,tab_r27Plan_ok⟩
def r28late.res (r:Bool): AV El:=.v (.bool (r))
def r28late.news (r:Bool): List (AObj El):= []
def r28late.L (e v:Bool): Prop:=r28late.res e=r28late.res v∧r28late.news e=r28late.news v
def r28late (kind:Int) (since:Int) (now:Int): Bool:=bif bif decide ((0:Int)≤kind) then !r28timed kind else false then decide ((40000000:Int) < IntKind.wrap IntKind.i64 (now - since)) else false
def r28late.dec (cs:List (AV El)): Option (Int×Int×Int):= popI .i64 cs fun a0 c0=>popI .i64 c0 fun a1 c1=>popI .i64 c1 fun a2 c2=>popE c2 (a0,a1,a2)
def r28late.enc (x:Int×Int×Int): List (AV El):= [.v (.int .i64 x.1), .v (.int .i64 x.2.1), .v (.int .i64 x.2.2)]
theorem r28late.dec_ok : ∀cs x,r28late.dec cs=some x→Imp (S:=S) cs (r28late.enc x):= by
 intro cs x h
 unfold r28late.dec at h
 obtain ⟨a0,c0,rfl,h0⟩:= popI_some (S:=S) h
 obtain ⟨a1,c1,rfl,h1⟩:= popI_some (S:=S) h0
 obtain ⟨a2,c2,rfl,h2⟩:= popI_some (S:=S) h1
 obtain ⟨rfl,rfl⟩:= popE_some (S:=S) h2
 exact (.cons (.cons (.cons (.refl _))))
def r28late.nf (kind:Int) (since:Int) (now:Int) (v:Bool): Prop:=Ob (o3 (decide (0≤kind)))∧(Ob (o3 (decide (0≤kind)))∧(Ob (o2 (decide (0≤kind)))∧(Ob (o3 (bif decide (0≤kind) then !r28timed kind else false))∧(Ob (o3 (bif decide (0≤kind) then !r28timed kind else false))∧(Ob (o3 (bif decide (0≤kind) then !r28timed kind else false))∧(Ob (o2 (bif decide (0≤kind) then !r28timed kind else false))∧(r28late.L (bif bif decide (0≤kind) then !r28timed kind else false then decide (40000000 < IntKind.wrap IntKind.i64 (now - since)) else false) v)))))))
theorem r28late.nf_ok (kind:Int) (since:Int) (now:Int) (v:Bool): evFun (mkCx Tryz.prog S tab_r28Quiet 0) 4 60 [.v (.int .i64 kind), .v (.int .i64 since), .v (.int .i64 now)] [] (fun r' H'=>Gives r' H' (r28late.res v) (r28late.news v))= r28late.nf kind since now v:=by kernel_rfl
theorem r28late.key (kind:Int) (since:Int) (now:Int) (v:Bool) (hv:v=r28late kind since now): r28late.nf kind since now v:=by
 unfold r28late at hv
 unfold r28late.nf
 iterate 2 refine ⟨⟨o3_ok _⟩, ?_⟩
 refine ⟨⟨o2_ok _⟩, ?_⟩
 iterate 3 refine ⟨⟨o3_ok _⟩, ?_⟩
 refine ⟨⟨o2_ok _⟩, ?_⟩
 subst hv;exact ⟨rfl,rfl⟩
def r28late.ct:Ct El:=ctOf r28late.dec (fun _=>[]) (fun x=>r28late.res (r28late x.1 x.2.1 x.2.2)) (fun x=>r28late.news (r28late x.1 x.2.1 x.2.2))
theorem r28late.ok:CtOk (mkCx Tryz.prog S [] 0) 60 r28late.ct:=ct_mk (C:=(mkCx Tryz.prog S tab_r28Quiet 0)) (mkCx_ok sigOk mixed tab_r28Quiet_ok 0) r28late.dec_ok (fun x=>rfl) 4 (fun x _=>(r28late.nf_ok x.1 x.2.1 x.2.2 _).mpr (r28late.key x.1 x.2.1 x.2.2 _ rfl))
def tab_r28late:List (FuncId×Ct El):= (60,r28late.ct):: tab_r28can
theorem tab_r28late_ok:TabOk Tryz.prog S tab_r28late:=⟨r28late.ok,by kernel_rfl,tab_r28can_ok⟩
def r27Check.res (r:Int): AV El:=.v (.int .i64 (r))
def r27Check.news (r:Int): List (AObj El):= []
def r27Check.L (e v:Int): Prop:=r27Check.res e=r27Check.res v∧r27Check.news e=r27Check.news v
def r27Check (event:Int) (c:Change): Int:=cond (bif c.Kind != (0:Int) then c.Kind != (1:Int) else false) ((12:Int)) (cond (r1Passed event c.Instant) ((18:Int)) ((0:Int)))
def r27Check.dec (cs:List (AV El)): Option (Int×Change):= popI .u16 cs fun a0 c0=>popA Change.dec c0 fun a1 c1=>popE c1 (a0,a1)
def r27Check.enc (x:Int×Change): List (AV El):= [.v (.int .u16 x.1),Change.av x.2]
theorem r27Check.dec_ok : ∀cs x,r27Check.dec cs=some x→Imp (S:=S) cs (r27Check.enc x):= by
 intro cs x h
 unfold r27Check.dec at h
 obtain ⟨a0,c0,rfl,h0⟩:= popI_some (S:=S) h
 obtain ⟨a1,c1,h1,k1⟩:= popA_some (S:=S) Change.dec_ok h0
 obtain ⟨rfl,rfl⟩:= popE_some (S:=S) h1
 exact (.cons (k1 _ (.refl _)))
def r27Check.nf (event:Int) (c:Change) (v:Int): Prop:=Ob (o3 (c.Kind != 0))∧(Ob (o3 (c.Kind != 0))∧(Ob (o2 (c.Kind != 0))∧(cond (bif c.Kind != 0 then c.Kind != 1 else false) (r27Check.L (12) v) (cond (r1Passed event c.Instant) (r27Check.L (18) v) (r27Check.L (0) v)))))
theorem r27Check.nf_ok (event:Int) (c:Change) (v:Int): evFun (mkCx Tryz.prog S tab_r28late 0) 4 132 [.v (.int .u16 event),Change.av c] [] (fun r' H'=>Gives r' H' (r27Check.res v) (r27Check.news v))= r27Check.nf event c v:=by kernel_rfl
theorem r27Check.key (event:Int) (c:Change) (v:Int) (hv:v=r27Check event c): r27Check.nf event c v:=by
 unfold r27Check at hv
 unfold r27Check.nf
 iterate 2 refine ⟨⟨o3_ok _⟩, ?_⟩
 refine ⟨⟨o2_ok _⟩, ?_⟩
 revert hv;refine by_cond2 (fun hb hv=>?_) (fun hb hv=>?_)
 ·subst hv;exact ⟨rfl,rfl⟩
 ·revert hv;refine by_cond2 (fun hb hv=>?_) (fun hb hv=>?_)
  ·subst hv;exact ⟨rfl,rfl⟩
  ·subst hv;exact ⟨rfl,rfl⟩
def r27Check.ct:Ct El:=ctOf r27Check.dec (fun _=>[]) (fun x=>r27Check.res (r27Check x.1 x.2)) (fun x=>r27Check.news (r27Check x.1 x.2))
theorem r27Check.ok:CtOk (mkCx Tryz.prog S [] 0) 132 r27Check.ct:=ct_mk (C:=(mkCx Tryz.prog S tab_r28late 0)) (mkCx_ok sigOk mixed tab_r28late_ok 0) r27Check.dec_ok (fun x=>rfl) 4 (fun x _=>(r27Check.nf_ok x.1 x.2 _).mpr (r27Check.key x.1 x.2 _ rfl))
def tab_r27Check:List (FuncId×Ct El):= (132,r27Check.ct):: tab_r28late
theorem tab_r27Check_ok:TabOk Tryz.prog S tab_r27Check:=⟨r27Check.ok,by kernel_rfl,tab_r28late_ok⟩
def r28Expired.res (r:Bool): AV El:=.v (.bool (r))
def r28Expired.news (r:Bool): List (AObj El):= []
def r28Expired.L (e v:Bool): Prop:=r28Expired.res e=r28Expired.res v∧r28Expired.news e=r28Expired.news v
def r28Expired (s:Procs) (now:Int): Bool:=bif r28late s.Own s.Since now then true else r28late s.Other s.OtherTime now
def r28Expired.dec (cs:List (AV El)): Option (Procs×Int):= popA Procs.dec cs fun a0 c0=>popI .i64 c0 fun a1 c1=>popE c1 (a0,a1)
def r28Expired.enc (x:Procs×Int): List (AV El):= [Procs.av x.1, .v (.int .i64 x.2)]
theorem r28Expired.dec_ok : ∀cs x,r28Expired.dec cs=some x→Imp (S:=S) cs (r28Expired.enc x):= by
 intro cs x h
 unfold r28Expired.dec at h
 obtain ⟨a0,c0,h0,k0⟩:= popA_some (S:=S) Procs.dec_ok h
 obtain ⟨a1,c1,rfl,h1⟩:= popI_some (S:=S) h0
 obtain ⟨rfl,rfl⟩:= popE_some (S:=S) h1
 exact (k0 _ (.cons (.refl _)))
def r28Expired.nf (s:Procs) (now:Int) (v:Bool): Prop:=Ob (o3 (!r28late s.Own s.Since now))∧(Ob (o3 (!r28late s.Own s.Since now))∧(Ob (o3 (!r28late s.Own s.Since now))∧(Ob (o3 (!r28late s.Own s.Since now))∧(Ob (o3 (!r28late s.Own s.Since now))∧(Ob (on (r28late s.Own s.Since now))∧(r28Expired.L (bif r28late s.Own s.Since now then true else r28late s.Other s.OtherTime now) v))))))
theorem r28Expired.nf_ok (s:Procs) (now:Int) (v:Bool): evFun (mkCx Tryz.prog S tab_r28late 0) 4 28 [Procs.av s, .v (.int .i64 now)] [] (fun r' H'=>Gives r' H' (r28Expired.res v) (r28Expired.news v))= r28Expired.nf s now v:=by kernel_rfl
theorem r28Expired.key (s:Procs) (now:Int) (v:Bool) (hv:v=r28Expired s now): r28Expired.nf s now v:=by
 unfold r28Expired at hv
 unfold r28Expired.nf
 iterate 5 refine ⟨⟨o3_ok _⟩, ?_⟩
 refine ⟨⟨on_ok _⟩, ?_⟩
 subst hv;exact ⟨rfl,rfl⟩
def r28Expired.ct:Ct El:=ctOf r28Expired.dec (fun _=>[]) (fun x=>r28Expired.res (r28Expired x.1 x.2)) (fun x=>r28Expired.news (r28Expired x.1 x.2))
theorem r28Expired.ok:CtOk (mkCx Tryz.prog S [] 0) 28 r28Expired.ct:=ct_mk (C:=(mkCx Tryz.prog S tab_r28late 0)) (mkCx_ok sigOk mixed tab_r28late_ok 0) r28Expired.dec_ok (fun x=>rfl) 4 (fun x _=>(r28Expired.nf_ok x.1 x.2 _).mpr (r28Expired.key x.1 x.2 _ rfl))
def tab_r28Expired:List (FuncId×Ct El):= (28,r28Expired.ct):: tab_r27Check
theorem tab_r28Expired_ok:TabOk Tryz.prog S tab_r28Expired:=⟨r28Expired.ok,by kernel_rfl,tab_r27Check_ok⟩
def procExpired.res (r:Bool): AV El:=.v (.bool (r))
def procExpired.news (r:Bool): List (AObj El):= []
def procExpired.L (e v:Bool): Prop:=procExpired.res e=procExpired.res v∧procExpired.news e=procExpired.news v
def procExpired (s:Procs) (now:Int): Bool:=bif pLate s.Own s.Since now then true else pLate s.Other s.OtherTime now
def procExpired.dec (cs:List (AV El)): Option (Procs×Int):= popA Procs.dec cs fun a0 c0=>popI .i64 c0 fun a1 c1=>popE c1 (a0,a1)
def procExpired.enc (x:Procs×Int): List (AV El):= [Procs.av x.1, .v (.int .i64 x.2)]
theorem procExpired.dec_ok : ∀cs x,procExpired.dec cs=some x→Imp (S:=S) cs (procExpired.enc x):= by
 intro cs x h
 unfold procExpired.dec at h
 obtain ⟨a0,c0,h0,k0⟩:= popA_some (S:=S) Procs.dec_ok h
 obtain ⟨a1,c1,rfl,h1⟩:= popI_some (S:=S) h0
 obtain ⟨rfl,rfl⟩:= popE_some (S:=S) h1
 exact (k0 _ (.cons (.refl _)))
def procExpired.nf (s:Procs) (now:Int) (v:Bool): Prop:=Ob (o3 (!pLate s.Own s.Since now))∧(Ob (o3 (!pLate s.Own s.Since now))∧(Ob (o3 (!pLate s.Own s.Since now))∧(Ob (o3 (!pLate s.Own s.Since now))∧(Ob (o3 (!pLate s.Own s.Since now))∧(Ob (on (pLate s.Own s.Since now))∧(procExpired.L (bif pLate s.Own s.Since now then true else pLate s.Other s.OtherTime now) v))))))
theorem procExpired.nf_ok (s:Procs) (now:Int) (v:Bool): evFun (mkCx Tryz.prog S tab_r28late 0) 4 27 [Procs.av s, .v (.int .i64 now)] [] (fun r' H'=>Gives r' H' (procExpired.res v) (procExpired.news v))= procExpired.nf s now v:=by kernel_rfl
theorem procExpired.key (s:Procs) (now:Int) (v:Bool) (hv:v=procExpired s now): procExpired.nf s now v:=by
 unfold procExpired at hv
 unfold procExpired.nf
 iterate 5 refine ⟨⟨o3_ok _⟩, ?_⟩
 refine ⟨⟨on_ok _⟩, ?_⟩
 subst hv;exact ⟨rfl,rfl⟩
def procExpired.ct:Ct El:=ctOf procExpired.dec (fun _=>[]) (fun x=>procExpired.res (procExpired x.1 x.2)) (fun x=>procExpired.news (procExpired x.1 x.2))
theorem procExpired.ok:CtOk (mkCx Tryz.prog S [] 0) 27 procExpired.ct:=ct_mk (C:=(mkCx Tryz.prog S tab_r28late 0)) (mkCx_ok sigOk mixed tab_r28late_ok 0) procExpired.dec_ok (fun x=>rfl) 4 (fun x _=>(procExpired.nf_ok x.1 x.2 _).mpr (procExpired.key x.1 x.2 _ rfl))
def tab_procExpired:List (FuncId×Ct El):= (27,procExpired.ct):: tab_r28Expired
theorem tab_procExpired_ok:TabOk Tryz.prog S tab_procExpired:=⟨procExpired.ok,by kernel_rfl,tab_r28Expired_ok⟩
end Go.Aw.W
