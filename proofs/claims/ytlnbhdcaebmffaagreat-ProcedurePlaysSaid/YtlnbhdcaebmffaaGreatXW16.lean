/- Contracts of the seat (printed by ct.py). -/
import Derived.Test.YtlnbhdcaebmffaaGreatXW15
set_option linter.unusedVariables false
set_option linter.unusedSimpArgs false
set_option maxRecDepth 20000
set_option maxHeartbeats 1000000
namespace Go.Aw.W
open Go Go.Aw Go.Proofs
attribute [local irreducible] evCode evFun evOps evDs evOne ctxK loopK loopB subC bodyC headS okH roundK
attribute [local irreducible] cCheck
def r17within.res (r:Bool): AV El:=.v (.bool (r))
def r17within.news (r:Bool): List (AObj El):= []
def r17within.L (e v:Bool): Prop:=r17within.res e=r17within.res v∧r17within.news e=r17within.news v
def r17within (n:Int) (low:Int) (high:Int): Bool:=bif decide (low≤n) then decide (n≤high) else false
def r17within.dec (cs:List (AV El)): Option (Int×Int×Int):= popI .i64 cs fun a0 c0=>popI .i64 c0 fun a1 c1=>popI .i64 c1 fun a2 c2=>popE c2 (a0,a1,a2)
def r17within.enc (x:Int×Int×Int): List (AV El):= [.v (.int .i64 x.1), .v (.int .i64 x.2.1), .v (.int .i64 x.2.2)]
theorem r17within.dec_ok : ∀cs x,r17within.dec cs=some x→Imp (S:=S) cs (r17within.enc x):= by
 intro cs x h
 unfold r17within.dec at h
 obtain ⟨a0,c0,rfl,h0⟩:= popI_some (S:=S) h
 obtain ⟨a1,c1,rfl,h1⟩:= popI_some (S:=S) h0
 obtain ⟨a2,c2,rfl,h2⟩:= popI_some (S:=S) h1
 obtain ⟨rfl,rfl⟩:= popE_some (S:=S) h2
 exact (.cons (.cons (.cons (.refl _))))
def r17within.nf (n:Int) (low:Int) (high:Int) (v:Bool): Prop:=Ob (o3 (decide (low≤n)))∧(Ob (o3 (decide (low≤n)))∧(Ob (o2 (decide (low≤n)))∧(r17within.L (bif decide (low≤n) then decide (n≤high) else false) v)))
theorem r17within.nf_ok (n:Int) (low:Int) (high:Int) (v:Bool): evFun (mkCx Tryz.prog S tab_procDue 0) 4 87 [.v (.int .i64 n), .v (.int .i64 low), .v (.int .i64 high)] [] (fun r' H'=>Gives r' H' (r17within.res v) (r17within.news v))= r17within.nf n low high v:=by kernel_rfl
theorem r17within.key (n:Int) (low:Int) (high:Int) (v:Bool) (hv:v=r17within n low high): r17within.nf n low high v:=by
 unfold r17within at hv
 unfold r17within.nf
 iterate 2 refine ⟨⟨o3_ok _⟩, ?_⟩
 refine ⟨⟨o2_ok _⟩, ?_⟩
 subst hv;exact ⟨rfl,rfl⟩
def r17within.ct:Ct El:=ctOf r17within.dec (fun _=>[]) (fun x=>r17within.res (r17within x.1 x.2.1 x.2.2)) (fun x=>r17within.news (r17within x.1 x.2.1 x.2.2))
theorem r17within.ok:CtOk (mkCx Tryz.prog S [] 0) 87 r17within.ct:=ct_mk (C:=(mkCx Tryz.prog S tab_procDue 0)) (mkCx_ok sigOk mixed tab_procDue_ok 0) r17within.dec_ok (fun x=>rfl) 4 (fun x _=>(r17within.nf_ok x.1 x.2.1 x.2.2 _).mpr (r17within.key x.1 x.2.1 x.2.2 _ rfl))
def tab_r17within:List (FuncId×Ct El):= (87,r17within.ct):: tab_procDue
theorem tab_r17within_ok:TabOk Tryz.prog S tab_r17within:=⟨r17within.ok,by kernel_rfl,tab_procDue_ok⟩
def r26isByte.res (r:Bool): AV El:=.v (.bool (r))
def r26isByte.news (r:Bool): List (AObj El):= []
def r26isByte.L (e v:Bool): Prop:=r26isByte.res e=r26isByte.res v∧r26isByte.news e=r26isByte.news v
def r26isByte (n:Int): Bool:=bif decide ((0:Int)≤n) then decide (n≤(255:Int)) else false
def r26isByte.dec (cs:List (AV El)): Option (Int):= popI .i64 cs fun a0 c0=>popE c0 a0
def r26isByte.enc (x:Int): List (AV El):= [.v (.int .i64 x)]
theorem r26isByte.dec_ok : ∀cs x,r26isByte.dec cs=some x→Imp (S:=S) cs (r26isByte.enc x):= by
 intro cs x h
 unfold r26isByte.dec at h
 obtain ⟨a0,c0,rfl,h0⟩:= popI_some (S:=S) h
 obtain ⟨rfl,rfl⟩:= popE_some (S:=S) h0
 exact (.cons (.refl _))
def r26isByte.nf (n:Int) (v:Bool): Prop:=Ob (o3 (decide ((0:Int)≤n)))∧(Ob (o2 (decide ((0:Int)≤n)))∧(r26isByte.L (bif decide ((0:Int)≤n) then decide (n≤(255:Int)) else false) v))
theorem r26isByte.nf_ok (n:Int) (v:Bool): evFun (mkCx Tryz.prog S tab_procDue 0) 4 47 [.v (.int .i64 n)] [] (fun r' H'=>Gives r' H' (r26isByte.res v) (r26isByte.news v))= r26isByte.nf n v:=by kernel_rfl
theorem r26isByte.key (n:Int) (v:Bool) (hv:v=r26isByte n): r26isByte.nf n v:=by
 unfold r26isByte at hv
 unfold r26isByte.nf
 refine ⟨⟨o3_ok _⟩, ?_⟩
 refine ⟨⟨o2_ok _⟩, ?_⟩
 subst hv;exact ⟨rfl,rfl⟩
def r26isByte.ct:Ct El:=ctOf r26isByte.dec (fun _=>[]) (fun x=>r26isByte.res (r26isByte x)) (fun x=>r26isByte.news (r26isByte x))
theorem r26isByte.ok:CtOk (mkCx Tryz.prog S [] 0) 47 r26isByte.ct:=ct_mk (C:=(mkCx Tryz.prog S tab_procDue 0)) (mkCx_ok sigOk mixed tab_procDue_ok 0) r26isByte.dec_ok (fun x=>rfl) 4 (fun x _=>(r26isByte.nf_ok x _).mpr (r26isByte.key x _ rfl))
def tab_r26isByte:List (FuncId×Ct El):= (47,r26isByte.ct):: tab_r17within
theorem tab_r26isByte_ok:TabOk Tryz.prog S tab_r26isByte:=⟨r26isByte.ok,by kernel_rfl,tab_r17within_ok⟩
def r26Proc.res (r:Int): AV El:=.v (.int .i64 (r))
def r26Proc.news (r:Int): List (AObj El):= []
def r26Proc.L (e v:Int): Prop:=r26Proc.res e=r26Proc.res v∧r26Proc.news e=r26Proc.news v
def r26Proc (kind:Int): Int:=cond (kind==0) (kind) (cond (kind==1) (kind) (cond (kind==2) (kind) (cond (kind==12) (kind) (cond (kind==15) (kind) (cond (kind==8) (8) (cond (kind==9) (8) (cond (kind==3) (3) (cond (kind==4) (3) (cond (kind==5) (3) (cond (kind==6) (3) (cond (kind==18) (18) (cond (kind==19) (18) (cond (kind==20) (20) (cond (kind==21) (20) ((-1))))))))))))))))
def r26Proc.dec (cs:List (AV El)): Option (Int):= popI .i64 cs fun a0 c0=>popE c0 a0
def r26Proc.enc (x:Int): List (AV El):= [.v (.int .i64 x)]
theorem r26Proc.dec_ok : ∀cs x,r26Proc.dec cs=some x→Imp (S:=S) cs (r26Proc.enc x):= by
 intro cs x h
 unfold r26Proc.dec at h
 obtain ⟨a0,c0,rfl,h0⟩:= popI_some (S:=S) h
 obtain ⟨rfl,rfl⟩:= popE_some (S:=S) h0
 exact (.cons (.refl _))
def r26Proc.nf (kind:Int) (v:Int): Prop:=cond (kind==0) (r26Proc.L (kind) v) (cond (kind==1) (r26Proc.L (kind) v) (cond (kind==2) (r26Proc.L (kind) v) (cond (kind==12) (r26Proc.L (kind) v) (cond (kind==15) (r26Proc.L (kind) v) (cond (kind==8) (r26Proc.L (8) v) (cond (kind==9) (r26Proc.L (8) v) (cond (kind==3) (r26Proc.L (3) v) (cond (kind==4) (r26Proc.L (3) v) (cond (kind==5) (r26Proc.L (3) v) (cond (kind==6) (r26Proc.L (3) v) (cond (kind==18) (r26Proc.L (18) v) (cond (kind==19) (r26Proc.L (18) v) (cond (kind==20) (r26Proc.L (20) v) (cond (kind==21) (r26Proc.L (20) v) (r26Proc.L ((-1)) v)))))))))))))))
theorem r26Proc.nf_ok (kind:Int) (v:Int): evFun (mkCx Tryz.prog S tab_procDue 0) 4 82 [.v (.int .i64 kind)] [] (fun r' H'=>Gives r' H' (r26Proc.res v) (r26Proc.news v))= r26Proc.nf kind v:=by kernel_rfl
theorem r26Proc.key (kind:Int) (v:Int) (hv:v=r26Proc kind): r26Proc.nf kind v:=by
 unfold r26Proc at hv
 unfold r26Proc.nf
 revert hv;refine by_cond2 (fun hb hv=>?_) (fun hb hv=>?_)
 ·subst hv;exact ⟨rfl,rfl⟩
 ·revert hv;refine by_cond2 (fun hb hv=>?_) (fun hb hv=>?_)
  ·subst hv;exact ⟨rfl,rfl⟩
  ·revert hv;refine by_cond2 (fun hb hv=>?_) (fun hb hv=>?_)
   ·subst hv;exact ⟨rfl,rfl⟩
   ·revert hv;refine by_cond2 (fun hb hv=>?_) (fun hb hv=>?_)
    ·subst hv;exact ⟨rfl,rfl⟩
    ·revert hv;refine by_cond2 (fun hb hv=>?_) (fun hb hv=>?_)
     ·subst hv;exact ⟨rfl,rfl⟩
     ·revert hv;refine by_cond2 (fun hb hv=>?_) (fun hb hv=>?_)
      ·subst hv;exact ⟨rfl,rfl⟩
      ·revert hv;refine by_cond2 (fun hb hv=>?_) (fun hb hv=>?_)
       ·subst hv;exact ⟨rfl,rfl⟩
       ·revert hv;refine by_cond2 (fun hb hv=>?_) (fun hb hv=>?_)
        ·subst hv;exact ⟨rfl,rfl⟩
        ·revert hv;refine by_cond2 (fun hb hv=>?_) (fun hb hv=>?_)
         ·subst hv;exact ⟨rfl,rfl⟩
         ·revert hv;refine by_cond2 (fun hb hv=>?_) (fun hb hv=>?_)
          ·subst hv;exact ⟨rfl,rfl⟩
          ·revert hv;refine by_cond2 (fun hb hv=>?_) (fun hb hv=>?_)
           ·subst hv;exact ⟨rfl,rfl⟩
           ·revert hv;refine by_cond2 (fun hb hv=>?_) (fun hb hv=>?_)
            ·subst hv;exact ⟨rfl,rfl⟩
            ·revert hv;refine by_cond2 (fun hb hv=>?_) (fun hb hv=>?_)
             ·subst hv;exact ⟨rfl,rfl⟩
             ·revert hv;refine by_cond2 (fun hb hv=>?_) (fun hb hv=>?_)
              ·subst hv;exact ⟨rfl,rfl⟩
              ·revert hv;refine by_cond2 (fun hb hv=>?_) (fun hb hv=>?_)
               ·subst hv;exact ⟨rfl,rfl⟩
               ·subst hv;exact ⟨rfl,rfl⟩
def r26Proc.ct:Ct El:=ctOf r26Proc.dec (fun _=>[]) (fun x=>r26Proc.res (r26Proc x)) (fun x=>r26Proc.news (r26Proc x))
theorem r26Proc.ok:CtOk (mkCx Tryz.prog S [] 0) 82 r26Proc.ct:=ct_mk (C:=(mkCx Tryz.prog S tab_procDue 0)) (mkCx_ok sigOk mixed tab_procDue_ok 0) r26Proc.dec_ok (fun x=>rfl) 4 (fun x _=>(r26Proc.nf_ok x _).mpr (r26Proc.key x _ rfl))
def tab_r26Proc:List (FuncId×Ct El):= (82,r26Proc.ct):: tab_r26isByte
theorem tab_r26Proc_ok:TabOk Tryz.prog S tab_r26Proc:=⟨r26Proc.ok,by kernel_rfl,tab_r26isByte_ok⟩
def r17CheckUpdate.res (r:Int): AV El:=.v (.int .i64 (r))
def r17CheckUpdate.news (r:Int): List (AObj El):= []
def r17CheckUpdate.L (e v:Int): Prop:=r17CheckUpdate.res e=r17CheckUpdate.res v∧r17CheckUpdate.news e=r17CheckUpdate.news v
def r17CheckUpdate (u:Update): Int:=cond (bif bif bif bif !r17within u.WinSize 1 8 then true else !r17within u.WinOffset 0 3200 then true else !r17within u.Interval 6 3200 then true else !r17within u.Latency 0 499 then true else !r17within u.Timeout 10 3200) (5) (cond (bif bif decide (u.Interval≤u.WinSize) then true else decide (u.Interval < u.WinOffset) then true else decide (IntKind.wrap IntKind.i64 (u.Timeout*10000)≤IntKind.wrap IntKind.i64 (IntKind.wrap IntKind.i64 (IntKind.wrap IntKind.i64 (2*IntKind.wrap IntKind.i64 (u.Latency+1))* u.Interval)* 1250))) (11) (0))
def r17CheckUpdate.dec (cs:List (AV El)): Option (Update):= popA Update.dec cs fun a0 c0=>popE c0 a0
def r17CheckUpdate.enc (x:Update): List (AV El):= [Update.av x]
theorem r17CheckUpdate.dec_ok : ∀cs x,r17CheckUpdate.dec cs=some x→Imp (S:=S) cs (r17CheckUpdate.enc x):= by
 intro cs x h
 unfold r17CheckUpdate.dec at h
 obtain ⟨a0,c0,h0,k0⟩:= popA_some (S:=S) Update.dec_ok h
 obtain ⟨rfl,rfl⟩:= popE_some (S:=S) h0
 exact (k0 _ (.refl _))
def r17CheckUpdate_nf_g1 (u:Update): Bool:=bif (!r17within u.WinSize (1:Int) (8:Int)) then true else (!r17within u.WinOffset (0:Int) (3200:Int))
def r17CheckUpdate_nf_g2 (u:Update): Bool:=bif (r17CheckUpdate_nf_g1 u) then true else (!r17within u.Interval (6:Int) (3200:Int))
def r17CheckUpdate_nf_g3 (u:Update): Bool:=bif (r17CheckUpdate_nf_g2 u) then true else (!r17within u.Latency (0:Int) (499:Int))
def r17CheckUpdate_nf_g4 (u:Update): Bool:=bif (decide (u.Interval≤u.WinSize)) then true else (decide (u.Interval < u.WinOffset))
def r17CheckUpdate.nf (u:Update) (v:Int): Prop:=Ob (o3 (!!r17within u.WinSize 1 8))∧(Ob (o3 (!!r17within u.WinSize 1 8))∧(Ob (o3 (!!r17within u.WinSize 1 8))∧(Ob (on (!r17within u.WinSize 1 8))∧(Ob (o3 (!(r17CheckUpdate_nf_g1 u)))∧(Ob (o3 (!(r17CheckUpdate_nf_g1 u)))∧(Ob (o3 (!(r17CheckUpdate_nf_g1 u)))∧(Ob (on (r17CheckUpdate_nf_g1 u))∧(Ob (o3 (!(r17CheckUpdate_nf_g2 u)))∧(Ob (o3 (!(r17CheckUpdate_nf_g2 u)))∧(Ob (o3 (!(r17CheckUpdate_nf_g2 u)))∧(Ob (on (r17CheckUpdate_nf_g2 u))∧(Ob (o3 (!(r17CheckUpdate_nf_g3 u)))∧(Ob (o3 (!(r17CheckUpdate_nf_g3 u)))∧(Ob (o3 (!(r17CheckUpdate_nf_g3 u)))∧(Ob (on (r17CheckUpdate_nf_g3 u))∧(cond (bif bif bif bif !r17within u.WinSize 1 8 then true else !r17within u.WinOffset 0 3200 then true else !r17within u.Interval 6 3200 then true else !r17within u.Latency 0 499 then true else !r17within u.Timeout 10 3200) (r17CheckUpdate.L (5) v) (Ob (o3 (!decide (u.Interval≤u.WinSize)))∧(Ob (o3 (!decide (u.Interval≤u.WinSize)))∧(Ob (o3 (!decide (u.Interval≤u.WinSize)))∧(Ob (o3 (!decide (u.Interval≤u.WinSize)))∧(Ob (on (decide (u.Interval≤u.WinSize)))∧(Ob (o3 (!(r17CheckUpdate_nf_g4 u)))∧(Ob (o3 (!(r17CheckUpdate_nf_g4 u)))∧(Ob (o3 (!(r17CheckUpdate_nf_g4 u)))∧(Ob (o3 (!(r17CheckUpdate_nf_g4 u)))∧(Ob (o3 (!(r17CheckUpdate_nf_g4 u)))∧(Ob (o3 (!(r17CheckUpdate_nf_g4 u)))∧(Ob (o3 (!(r17CheckUpdate_nf_g4 u)))∧(Ob (o3 (!(r17CheckUpdate_nf_g4 u)))∧(Ob (o3 (!(r17CheckUpdate_nf_g4 u)))∧(Ob (o3 (!(r17CheckUpdate_nf_g4 u)))∧(Ob (o3 (!(r17CheckUpdate_nf_g4 u)))∧(Ob (on (r17CheckUpdate_nf_g4 u))∧(cond (bif bif decide (u.Interval≤u.WinSize) then true else decide (u.Interval < u.WinOffset) then true else decide (IntKind.wrap IntKind.i64 (u.Timeout*10000)≤IntKind.wrap IntKind.i64 (IntKind.wrap IntKind.i64 (IntKind.wrap IntKind.i64 (2*IntKind.wrap IntKind.i64 (u.Latency+1))* u.Interval)* 1250))) (r17CheckUpdate.L (11) v) (r17CheckUpdate.L (0) v)))))))))))))))))))))))))))))))))))
theorem r17CheckUpdate.nf_ok (u:Update) (v:Int): evFun (mkCx Tryz.prog S tab_r26Proc 0) 4 45 [Update.av u] [] (fun r' H'=>Gives r' H' (r17CheckUpdate.res v) (r17CheckUpdate.news v))= r17CheckUpdate.nf u v:=by kernel_rfl
theorem r17CheckUpdate.key (u:Update) (v:Int) (hv:v=r17CheckUpdate u): r17CheckUpdate.nf u v:=by
 unfold r17CheckUpdate at hv
 unfold r17CheckUpdate.nf
 iterate 3 refine ⟨⟨o3_ok _⟩, ?_⟩
 refine ⟨⟨on_ok _⟩, ?_⟩
 iterate 3 refine ⟨⟨o3_ok _⟩, ?_⟩
 refine ⟨⟨on_ok _⟩, ?_⟩
 iterate 3 refine ⟨⟨o3_ok _⟩, ?_⟩
 refine ⟨⟨on_ok _⟩, ?_⟩
 iterate 3 refine ⟨⟨o3_ok _⟩, ?_⟩
 refine ⟨⟨on_ok _⟩, ?_⟩
 revert hv;refine by_cond2 (fun hb hv=>?_) (fun hb hv=>?_)
 ·subst hv;exact ⟨rfl,rfl⟩
 ·refine ⟨⟨o3_ok _⟩, ?_⟩
  iterate 3 refine ⟨⟨o3_ok _⟩, ?_⟩
  refine ⟨⟨on_ok _⟩, ?_⟩
  iterate 11 refine ⟨⟨o3_ok _⟩, ?_⟩
  refine ⟨⟨on_ok _⟩, ?_⟩
  revert hv;refine by_cond2 (fun hb hv=>?_) (fun hb hv=>?_)
  ·subst hv;exact ⟨rfl,rfl⟩
  ·subst hv;exact ⟨rfl,rfl⟩
def r17CheckUpdate.ct:Ct El:=ctOf r17CheckUpdate.dec (fun _=>[]) (fun x=>r17CheckUpdate.res (r17CheckUpdate x)) (fun x=>r17CheckUpdate.news (r17CheckUpdate x))
theorem r17CheckUpdate.ok:CtOk (mkCx Tryz.prog S [] 0) 45 r17CheckUpdate.ct:=ct_mk (C:=(mkCx Tryz.prog S tab_r26Proc 0)) (mkCx_ok sigOk mixed tab_r26Proc_ok 0) r17CheckUpdate.dec_ok (fun x=>rfl) 4 (fun x _=>(r17CheckUpdate.nf_ok x _).mpr (r17CheckUpdate.key x _ rfl))
def tab_r17CheckUpdate:List (FuncId×Ct El):= (45,r17CheckUpdate.ct):: tab_r26Proc
theorem tab_r17CheckUpdate_ok:TabOk Tryz.prog S tab_r17CheckUpdate:=⟨r17CheckUpdate.ok,by kernel_rfl,tab_r26Proc_ok⟩
def r26rest.res (r:Control): AV El:=Control.av (r)
def r26rest.news (r:Control): List (AObj El):= []
def r26rest.L (e v:Control): Prop:=r26rest.res e=r26rest.res v∧r26rest.news e=r26rest.news v
def r26rest (c:Control): Control:=cond (c.Kind==0) (({c with Kind:=0,Update:=⟨(0),(0),(0),(0),(0)⟩,Instant:=0}: Control)) (cond (c.Kind==1) (({c with Kind:=0,Map:=0,Instant:=0}: Control)) (cond (c.Kind==2) (({c with Kind:=0,Reason:=0}: Control)) (cond (c.Kind==3) (({c with Kind:=0,Salt:=0,Mark:=0}: Control)) (cond (c.Kind==4) (({c with Kind:=0,Salt:=0}: Control)) (cond (c.Kind==5) (({c with Kind:=0}: Control)) (cond (c.Kind==6) (({c with Kind:=0}: Control)) (cond (c.Kind==18) (({c with Kind:=0}: Control)) (cond (c.Kind==19) (({c with Kind:=0}: Control)) (cond (c.Kind==7) (({c with Kind:=0,Rejected:=0}: Control)) (cond (c.Kind==8) (({c with Kind:=0,Features:=0}: Control)) (cond (c.Kind==9) (({c with Kind:=0,Features:=0}: Control)) (cond (c.Kind==12) (({c with Kind:=0,Version:=0}: Control)) (cond (c.Kind==13) (({c with Kind:=0,Reason:=0,Rejected:=0}: Control)) (cond (c.Kind==15) (({c with Kind:=0,Update:=⟨(0),(0),(0),(0),(0)⟩}: Control)) (cond (c.Kind==20) (({c with Kind:=0,Length:=0}: Control)) (cond (c.Kind==21) (({c with Kind:=0,Length:=0}: Control)) (({c with Kind:=0}: Control))))))))))))))))))
def r26rest.dec (cs:List (AV El)): Option (Control):= popA Control.dec cs fun a0 c0=>popE c0 a0
def r26rest.enc (x:Control): List (AV El):= [Control.av x]
theorem r26rest.dec_ok : ∀cs x,r26rest.dec cs=some x→Imp (S:=S) cs (r26rest.enc x):= by
 intro cs x h
 unfold r26rest.dec at h
 obtain ⟨a0,c0,h0,k0⟩:= popA_some (S:=S) Control.dec_ok h
 obtain ⟨rfl,rfl⟩:= popE_some (S:=S) h0
 exact (k0 _ (.refl _))
def r26rest.nf (c:Control) (v:Control): Prop:=cond (c.Kind==0) (r26rest.L (({c with Kind:=0,Update:=⟨(0),(0),(0),(0),(0)⟩,Instant:=0}: Control)) v) (cond (c.Kind==1) (r26rest.L (({c with Kind:=0,Map:=0,Instant:=0}: Control)) v) (cond (c.Kind==2) (r26rest.L (({c with Kind:=0,Reason:=0}: Control)) v) (cond (c.Kind==3) (r26rest.L (({c with Kind:=0,Salt:=0,Mark:=0}: Control)) v) (cond (c.Kind==4) (r26rest.L (({c with Kind:=0,Salt:=0}: Control)) v) (cond (c.Kind==5) (r26rest.L (({c with Kind:=0}: Control)) v) (cond (c.Kind==6) (r26rest.L (({c with Kind:=0}: Control)) v) (cond (c.Kind==18) (r26rest.L (({c with Kind:=0}: Control)) v) (cond (c.Kind==19) (r26rest.L (({c with Kind:=0}: Control)) v) (cond (c.Kind==7) (r26rest.L (({c with Kind:=0,Rejected:=0}: Control)) v) (cond (c.Kind==8) (r26rest.L (({c with Kind:=0,Features:=0}: Control)) v) (cond (c.Kind==9) (r26rest.L (({c with Kind:=0,Features:=0}: Control)) v) (cond (c.Kind==12) (r26rest.L (({c with Kind:=0,Version:=0}: Control)) v) (cond (c.Kind==13) (r26rest.L (({c with Kind:=0,Reason:=0,Rejected:=0}: Control)) v) (cond (c.Kind==15) (r26rest.L (({c with Kind:=0,Update:=⟨(0),(0),(0),(0),(0)⟩}: Control)) v) (cond (c.Kind==20) (r26rest.L (({c with Kind:=0,Length:=0}: Control)) v) (cond (c.Kind==21) (r26rest.L (({c with Kind:=0,Length:=0}: Control)) v) (r26rest.L (({c with Kind:=0}: Control)) v)))))))))))))))))
theorem r26rest.nf_ok (c:Control) (v:Control): evFun (mkCx Tryz.prog S tab_r26Proc 0) 4 44 [Control.av c] [] (fun r' H'=>Gives r' H' (r26rest.res v) (r26rest.news v))= r26rest.nf c v:=by kernel_rfl
theorem r26rest.key (c:Control) (v:Control) (hv:v=r26rest c): r26rest.nf c v:=by
 unfold r26rest at hv
 unfold r26rest.nf
 revert hv;refine by_cond2 (fun hb hv=>?_) (fun hb hv=>?_)
 ·subst hv;exact ⟨rfl,rfl⟩
 ·revert hv;refine by_cond2 (fun hb hv=>?_) (fun hb hv=>?_)
  ·subst hv;exact ⟨rfl,rfl⟩
  ·revert hv;refine by_cond2 (fun hb hv=>?_) (fun hb hv=>?_)
   ·subst hv;exact ⟨rfl,rfl⟩
   ·revert hv;refine by_cond2 (fun hb hv=>?_) (fun hb hv=>?_)
    ·subst hv;exact ⟨rfl,rfl⟩
    ·revert hv;refine by_cond2 (fun hb hv=>?_) (fun hb hv=>?_)
     ·subst hv;exact ⟨rfl,rfl⟩
     ·revert hv;refine by_cond2 (fun hb hv=>?_) (fun hb hv=>?_)
      ·subst hv;exact ⟨rfl,rfl⟩
      ·revert hv;refine by_cond2 (fun hb hv=>?_) (fun hb hv=>?_)
       ·subst hv;exact ⟨rfl,rfl⟩
       ·revert hv;refine by_cond2 (fun hb hv=>?_) (fun hb hv=>?_)
        ·subst hv;exact ⟨rfl,rfl⟩
        ·revert hv;refine by_cond2 (fun hb hv=>?_) (fun hb hv=>?_)
         ·subst hv;exact ⟨rfl,rfl⟩
         ·revert hv;refine by_cond2 (fun hb hv=>?_) (fun hb hv=>?_)
          ·subst hv;exact ⟨rfl,rfl⟩
          ·revert hv;refine by_cond2 (fun hb hv=>?_) (fun hb hv=>?_)
           ·subst hv;exact ⟨rfl,rfl⟩
           ·revert hv;refine by_cond2 (fun hb hv=>?_) (fun hb hv=>?_)
            ·subst hv;exact ⟨rfl,rfl⟩
            ·revert hv;refine by_cond2 (fun hb hv=>?_) (fun hb hv=>?_)
             ·subst hv;exact ⟨rfl,rfl⟩
             ·revert hv;refine by_cond2 (fun hb hv=>?_) (fun hb hv=>?_)
              ·subst hv;exact ⟨rfl,rfl⟩
              ·revert hv;refine by_cond2 (fun hb hv=>?_) (fun hb hv=>?_)
               ·subst hv;exact ⟨rfl,rfl⟩
               ·revert hv;refine by_cond2 (fun hb hv=>?_) (fun hb hv=>?_)
                ·subst hv;exact ⟨rfl,rfl⟩
                ·revert hv;refine by_cond2 (fun hb hv=>?_) (fun hb hv=>?_)
                 ·subst hv;exact ⟨rfl,rfl⟩
                 ·subst hv;exact ⟨rfl,rfl⟩
def r26rest.ct:Ct El:=ctOf r26rest.dec (fun _=>[]) (fun x=>r26rest.res (r26rest x)) (fun x=>r26rest.news (r26rest x))
theorem r26rest.ok:CtOk (mkCx Tryz.prog S [] 0) 44 r26rest.ct:=ct_mk (C:=(mkCx Tryz.prog S tab_r26Proc 0)) (mkCx_ok sigOk mixed tab_r26Proc_ok 0) r26rest.dec_ok (fun x=>rfl) 4 (fun x _=>(r26rest.nf_ok x _).mpr (r26rest.key x _ rfl))
def tab_r26rest:List (FuncId×Ct El):= (44,r26rest.ct):: tab_r17CheckUpdate
theorem tab_r26rest_ok:TabOk Tryz.prog S tab_r26rest:=⟨r26rest.ok,by kernel_rfl,tab_r17CheckUpdate_ok⟩
def r26Fields.res (r:Ref26Uses): AV El:=Ref26Uses.av (r)
def r26Fields.news (r:Ref26Uses): List (AObj El):= []
def r26Fields.L (e v:Ref26Uses): Prop:=r26Fields.res e=r26Fields.res v∧r26Fields.news e=r26Fields.news v
def r26Fields (kind:Int): Ref26Uses:=cond (kind==0) ((⟨(true),(true),(false),(true),(false),(false),(false),(false),(false),(false),(false)⟩: Ref26Uses)) (cond (kind==1) ((⟨(true),(false),(true),(true),(false),(false),(false),(false),(false),(false),(false)⟩: Ref26Uses)) (cond (kind==2) ((⟨(true),(false),(false),(false),(true),(false),(false),(false),(false),(false),(false)⟩: Ref26Uses)) (cond (kind==3) ((⟨(true),(false),(false),(false),(false),(false),(true),(true),(false),(false),(false)⟩: Ref26Uses)) (cond (kind==4) ((⟨(true),(false),(false),(false),(false),(false),(true),(false),(false),(false),(false)⟩: Ref26Uses)) (cond (kind==5) ((⟨(true),(false),(false),(false),(false),(false),(false),(false),(false),(false),(false)⟩: Ref26Uses)) (cond (kind==6) ((⟨(true),(false),(false),(false),(false),(false),(false),(false),(false),(false),(false)⟩: Ref26Uses)) (cond (kind==18) ((⟨(true),(false),(false),(false),(false),(false),(false),(false),(false),(false),(false)⟩: Ref26Uses)) (cond (kind==19) ((⟨(true),(false),(false),(false),(false),(false),(false),(false),(false),(false),(false)⟩: Ref26Uses)) (cond (kind==7) ((⟨(true),(false),(false),(false),(false),(true),(false),(false),(false),(false),(false)⟩: Ref26Uses)) (cond (kind==8) ((⟨(true),(false),(false),(false),(false),(false),(false),(false),(true),(false),(false)⟩: Ref26Uses)) (cond (kind==9) ((⟨(true),(false),(false),(false),(false),(false),(false),(false),(true),(false),(false)⟩: Ref26Uses)) (cond (kind==12) ((⟨(true),(false),(false),(false),(false),(false),(false),(false),(false),(true),(false)⟩: Ref26Uses)) (cond (kind==13) ((⟨(true),(false),(false),(false),(true),(true),(false),(false),(false),(false),(false)⟩: Ref26Uses)) (cond (kind==15) ((⟨(true),(true),(false),(false),(false),(false),(false),(false),(false),(false),(false)⟩: Ref26Uses)) (cond (kind==20) ((⟨(true),(false),(false),(false),(false),(false),(false),(false),(false),(false),(true)⟩: Ref26Uses)) (cond (kind==21) ((⟨(true),(false),(false),(false),(false),(false),(false),(false),(false),(false),(true)⟩: Ref26Uses)) ((⟨(false),(false),(false),(false),(false),(false),(false),(false),(false),(false),(false)⟩: Ref26Uses))))))))))))))))))
def r26Fields.dec (cs:List (AV El)): Option (Int):= popI .i64 cs fun a0 c0=>popE c0 a0
def r26Fields.enc (x:Int): List (AV El):= [.v (.int .i64 x)]
theorem r26Fields.dec_ok : ∀cs x,r26Fields.dec cs=some x→Imp (S:=S) cs (r26Fields.enc x):= by
 intro cs x h
 unfold r26Fields.dec at h
 obtain ⟨a0,c0,rfl,h0⟩:= popI_some (S:=S) h
 obtain ⟨rfl,rfl⟩:= popE_some (S:=S) h0
 exact (.cons (.refl _))
def r26Fields.nf (kind:Int) (v:Ref26Uses): Prop:=cond (kind==0) (r26Fields.L ((⟨(true),(true),(false),(true),(false),(false),(false),(false),(false),(false),(false)⟩: Ref26Uses)) v) (cond (kind==1) (r26Fields.L ((⟨(true),(false),(true),(true),(false),(false),(false),(false),(false),(false),(false)⟩: Ref26Uses)) v) (cond (kind==2) (r26Fields.L ((⟨(true),(false),(false),(false),(true),(false),(false),(false),(false),(false),(false)⟩: Ref26Uses)) v) (cond (kind==3) (r26Fields.L ((⟨(true),(false),(false),(false),(false),(false),(true),(true),(false),(false),(false)⟩: Ref26Uses)) v) (cond (kind==4) (r26Fields.L ((⟨(true),(false),(false),(false),(false),(false),(true),(false),(false),(false),(false)⟩: Ref26Uses)) v) (cond (kind==5) (r26Fields.L ((⟨(true),(false),(false),(false),(false),(false),(false),(false),(false),(false),(false)⟩: Ref26Uses)) v) (cond (kind==6) (r26Fields.L ((⟨(true),(false),(false),(false),(false),(false),(false),(false),(false),(false),(false)⟩: Ref26Uses)) v) (cond (kind==18) (r26Fields.L ((⟨(true),(false),(false),(false),(false),(false),(false),(false),(false),(false),(false)⟩: Ref26Uses)) v) (cond (kind==19) (r26Fields.L ((⟨(true),(false),(false),(false),(false),(false),(false),(false),(false),(false),(false)⟩: Ref26Uses)) v) (cond (kind==7) (r26Fields.L ((⟨(true),(false),(false),(false),(false),(true),(false),(false),(false),(false),(false)⟩: Ref26Uses)) v) (cond (kind==8) (r26Fields.L ((⟨(true),(false),(false),(false),(false),(false),(false),(false),(true),(false),(false)⟩: Ref26Uses)) v) (cond (kind==9) (r26Fields.L ((⟨(true),(false),(false),(false),(false),(false),(false),(false),(true),(false),(false)⟩: Ref26Uses)) v) (cond (kind==12) (r26Fields.L ((⟨(true),(false),(false),(false),(false),(false),(false),(false),(false),(true),(false)⟩: Ref26Uses)) v) (cond (kind==13) (r26Fields.L ((⟨(true),(false),(false),(false),(true),(true),(false),(false),(false),(false),(false)⟩: Ref26Uses)) v) (cond (kind==15) (r26Fields.L ((⟨(true),(true),(false),(false),(false),(false),(false),(false),(false),(false),(false)⟩: Ref26Uses)) v) (cond (kind==20) (r26Fields.L ((⟨(true),(false),(false),(false),(false),(false),(false),(false),(false),(false),(true)⟩: Ref26Uses)) v) (cond (kind==21) (r26Fields.L ((⟨(true),(false),(false),(false),(false),(false),(false),(false),(false),(false),(true)⟩: Ref26Uses)) v) (r26Fields.L ((⟨(false),(false),(false),(false),(false),(false),(false),(false),(false),(false),(false)⟩: Ref26Uses)) v)))))))))))))))))
theorem r26Fields.nf_ok (kind:Int) (v:Ref26Uses): evFun (mkCx Tryz.prog S tab_r26rest 0) 4 43 [.v (.int .i64 kind)] [] (fun r' H'=>Gives r' H' (r26Fields.res v) (r26Fields.news v))= r26Fields.nf kind v:=by kernel_rfl
theorem r26Fields.key (kind:Int) (v:Ref26Uses) (hv:v=r26Fields kind): r26Fields.nf kind v:=by
 unfold r26Fields at hv
 unfold r26Fields.nf
 revert hv;refine by_cond2 (fun hb hv=>?_) (fun hb hv=>?_)
 ·subst hv;exact ⟨rfl,rfl⟩
 ·revert hv;refine by_cond2 (fun hb hv=>?_) (fun hb hv=>?_)
  ·subst hv;exact ⟨rfl,rfl⟩
  ·revert hv;refine by_cond2 (fun hb hv=>?_) (fun hb hv=>?_)
   ·subst hv;exact ⟨rfl,rfl⟩
   ·revert hv;refine by_cond2 (fun hb hv=>?_) (fun hb hv=>?_)
    ·subst hv;exact ⟨rfl,rfl⟩
    ·revert hv;refine by_cond2 (fun hb hv=>?_) (fun hb hv=>?_)
     ·subst hv;exact ⟨rfl,rfl⟩
     ·revert hv;refine by_cond2 (fun hb hv=>?_) (fun hb hv=>?_)
      ·subst hv;exact ⟨rfl,rfl⟩
      ·revert hv;refine by_cond2 (fun hb hv=>?_) (fun hb hv=>?_)
       ·subst hv;exact ⟨rfl,rfl⟩
       ·revert hv;refine by_cond2 (fun hb hv=>?_) (fun hb hv=>?_)
        ·subst hv;exact ⟨rfl,rfl⟩
        ·revert hv;refine by_cond2 (fun hb hv=>?_) (fun hb hv=>?_)
         ·subst hv;exact ⟨rfl,rfl⟩
         ·revert hv;refine by_cond2 (fun hb hv=>?_) (fun hb hv=>?_)
          ·subst hv;exact ⟨rfl,rfl⟩
          ·revert hv;refine by_cond2 (fun hb hv=>?_) (fun hb hv=>?_)
           ·subst hv;exact ⟨rfl,rfl⟩
           ·revert hv;refine by_cond2 (fun hb hv=>?_) (fun hb hv=>?_)
            ·subst hv;exact ⟨rfl,rfl⟩
            ·revert hv;refine by_cond2 (fun hb hv=>?_) (fun hb hv=>?_)
             ·subst hv;exact ⟨rfl,rfl⟩
             ·revert hv;refine by_cond2 (fun hb hv=>?_) (fun hb hv=>?_)
              ·subst hv;exact ⟨rfl,rfl⟩
              ·revert hv;refine by_cond2 (fun hb hv=>?_) (fun hb hv=>?_)
               ·subst hv;exact ⟨rfl,rfl⟩
               ·revert hv;refine by_cond2 (fun hb hv=>?_) (fun hb hv=>?_)
                ·subst hv;exact ⟨rfl,rfl⟩
                ·revert hv;refine by_cond2 (fun hb hv=>?_) (fun hb hv=>?_)
                 ·subst hv;exact ⟨rfl,rfl⟩
                 ·subst hv;exact ⟨rfl,rfl⟩
def r26Fields.ct:Ct El:=ctOf r26Fields.dec (fun _=>[]) (fun x=>r26Fields.res (r26Fields x)) (fun x=>r26Fields.news (r26Fields x))
theorem r26Fields.ok:CtOk (mkCx Tryz.prog S [] 0) 43 r26Fields.ct:=ct_mk (C:=(mkCx Tryz.prog S tab_r26rest 0)) (mkCx_ok sigOk mixed tab_r26rest_ok 0) r26Fields.dec_ok (fun x=>rfl) 4 (fun x _=>(r26Fields.nf_ok x _).mpr (r26Fields.key x _ rfl))
def tab_r26Fields:List (FuncId×Ct El):= (43,r26Fields.ct):: tab_r26rest
theorem tab_r26Fields_ok:TabOk Tryz.prog S tab_r26Fields:=⟨r26Fields.ok,by kernel_rfl,tab_r26rest_ok⟩
def r1Power.res (r:Int): AV El:=.v (.int .u64 (r))
def r1Power.news (r:Int): List (AObj El):= []
def r1Power.L (e v:Int): Prop:=r1Power.res e=r1Power.res v∧r1Power.news e=r1Power.news v
def r1Power.go (bits:Int): Nat→Int→Int→Int
 | 0,_,_=>0
 | n0+1,i,p=>cond (decide (i < bits)) (r1Power.go bits n0 (IntKind.wrap IntKind.i64 (i+(1:Int))) (IntKind.wrap IntKind.u64 (p*(2:Int)))) (p)
def r1Power.hd (bits:Int) (i:Int) (p:Int): St El:={lo:=0,slots:=[(4, .v (.int .i64 (i))),(3, .v (.int .u64 (p))),(0, .v (.int .i64 (bits)))],n:=13,objs:=[]}
def r1Power.st (bits:Int) (i:Int) (p:Int) (J:St El→Prop) (v:Int): Prop:=cond (decide (i < bits)) (J (r1Power.hd bits (IntKind.wrap IntKind.i64 (i+(1:Int))) (IntKind.wrap IntKind.u64 (p*(2:Int))))) (r1Power.L (p) v)
theorem r1Power.st_ok (bits:Int) (i:Int) (p:Int) (J:St El→Prop) (v:Int): evCode (mkCx Tryz.prog S tab_r26Fields 0) (evFun (mkCx Tryz.prog S tab_r26Fields 0) 3) (loopB Tryz.prog 88 [true,true,false,true,false]) (r1Power.hd bits i p) (roundK (C:=(mkCx Tryz.prog S tab_r26Fields 0)) [4,3,0] [] J (loopK (mkCx Tryz.prog S tab_r26Fields 0) 3 88 [true,true,false,true,false] (fun r' H'=>Gives r' H' (r1Power.res v) (r1Power.news v))))= r1Power.st bits i p J v:=by kernel_rfl
def r1Power.rng (bits:Int) (n0:Nat) (i:Int) (p:Int): Prop:=0≤i∧(bits - i).toNat < n0
theorem r1Power.lp (bits:Int) (hp:bits≤9223372036854775807) (v:Int) (n0:Nat) (i:Int) (p:Int) (hv:v=r1Power.go bits n0 i p) (h0:r1Power.rng bits n0 i p) (st:St El) (q1:okH [4,3,0] [] st=true) (q2:headS [4,3,0] [] st=r1Power.hd bits i p): evCode (mkCx Tryz.prog S tab_r26Fields 0) (evFun (mkCx Tryz.prog S tab_r26Fields 0) 3) (.loop (loopB Tryz.prog 88 [true,true,false,true,false])) st (loopK (mkCx Tryz.prog S tab_r26Fields 0) 3 88 [true,true,false,true,false] (fun r' H'=>Gives r' H' (r1Power.res v) (r1Power.news v))):= by
 refine loop_ev (by kernel_rfl) (evFun_mono _ _) [4,3,0] [] (X:=Nat×Int×Int) (fun x=>r1Power.hd bits x.2.1 x.2.2) (fun x=>x.1) (fun x=>r1Power.rng bits x.1 x.2.1 x.2.2∧v=r1Power.go bits x.1 x.2.1 x.2.2) (n0,i,p) ⟨q1,q2⟩ ⟨h0,hv⟩ ?_
 clear h0 hv q1 q2
 rintro ⟨n0,i,p⟩ ⟨hr,hv⟩
 dsimp only at hr hv
 cases n0 with
 | zero=>exact absurd hr (by unfold r1Power.rng;omega)
 | succ n0 =>
 unfold r1Power.rng at hr
 unfold r1Power.go at hv
 refine (r1Power.st_ok bits i p _ _).mpr ?_
 unfold r1Power.st
 revert hv;refine by_cond2 (fun hb hv=>?_) (fun hb hv=>?_)
 ·exact ⟨(n0,(IntKind.wrap IntKind.i64 (i+(1:Int))),(IntKind.wrap IntKind.u64 (p*(2:Int)))),(by kernel_rfl),Nat.lt_succ_self n0,(by dsimp only;unfold r1Power.rng;(try clear hv);(try clear q1 q2);(try clear hk);(try simp only [decide_eq_true_eq,decide_eq_false_iff_not,Bool.not_eq_true,Bool.not_eq_false,Bool.and_eq_true,Bool.or_eq_true,Bool.not_not,cond_and,cond_or,List.length_append,List.length_cons,List.length_nil] at *);have:=wi64s (i+(1:Int));have:=wu64s (p*(2:Int));omega),hv⟩
 ·subst hv;exact ⟨rfl,rfl⟩
def r1Power (bits:Int): Int:=r1Power.go bits (bits.toNat+1) ((0:Int)) ((1:Int))
def r1Power.dec (cs:List (AV El)): Option (Int):= popI .i64 cs fun a0 c0=>popE c0 a0
def r1Power.enc (x:Int): List (AV El):= [.v (.int .i64 x)]
theorem r1Power.dec_ok : ∀cs x,r1Power.dec cs=some x→Imp (S:=S) cs (r1Power.enc x):= by
 intro cs x h
 unfold r1Power.dec at h
 obtain ⟨a0,c0,rfl,h0⟩:= popI_some (S:=S) h
 obtain ⟨rfl,rfl⟩:= popE_some (S:=S) h0
 exact (.cons (.refl _))
def r1Power.nf (bits:Int) (v:Int): Prop:=evCode (mkCx Tryz.prog S tab_r26Fields 0) (evFun (mkCx Tryz.prog S tab_r26Fields 0) 3) (.loop (loopB Tryz.prog 88 [true,true,false,true,false])) ({lo:=0,slots:=[(4, .v (.int .i64 (0))),(3, .v (.int .u64 (1))),(2, .v (.int .u64 (0))),(0, .v (.int .i64 (bits)))],n:=13,objs:=[]}) (loopK (mkCx Tryz.prog S tab_r26Fields 0) 3 88 [true,true,false,true,false] (fun r' H'=>Gives r' H' (r1Power.res v) (r1Power.news v)))
theorem r1Power.nf_ok (bits:Int) (v:Int): evFun (mkCx Tryz.prog S tab_r26Fields 0) 4 88 [.v (.int .i64 bits)] [] (fun r' H'=>Gives r' H' (r1Power.res v) (r1Power.news v))= r1Power.nf bits v:=by kernel_rfl
theorem r1Power.key (bits:Int) (hp:bits≤9223372036854775807) (v:Int) (hv:v=r1Power bits): r1Power.nf bits v:=by
 unfold r1Power at hv
 unfold r1Power.nf
 exact r1Power.lp bits hp v _ _ _ hv (by unfold r1Power.rng;(try clear hv);(try clear q1 q2);(try clear hk);(omega)) _ (by kernel_rfl) (by kernel_rfl)
def r1Power.ct:Ct El:=ctOf r1Power.dec (fun x=>[x≤9223372036854775807]) (fun x=>r1Power.res (r1Power x)) (fun x=>r1Power.news (r1Power x))
theorem r1Power.ok:CtOk (mkCx Tryz.prog S [] 0) 88 r1Power.ct:=ct_mk (C:=(mkCx Tryz.prog S tab_r26Fields 0)) (mkCx_ok sigOk mixed tab_r26Fields_ok 0) r1Power.dec_ok (fun x=>rfl) 4 (fun x hp=>(r1Power.nf_ok x _).mpr (r1Power.key x (hp _ (List.mem_singleton.2 rfl)) _ rfl))
def tab_r1Power:List (FuncId×Ct El):= (88,r1Power.ct):: tab_r26Fields
theorem tab_r1Power_ok:TabOk Tryz.prog S tab_r1Power:=⟨r1Power.ok,by kernel_rfl,tab_r26Fields_ok⟩
theorem r1Power_pow : ∀n:Nat,n < 64→r1Power (n:Int)= (2:Int) ^ n:=by decide +kernel
theorem r1Power_eq {b:Int} (h0:0≤b) (h1:b≤63): r1Power b=2 ^ b.toNat:=by
 have:=r1Power_pow b.toNat (by omega)
 rwa [Int.toNat_of_nonneg h0] at this
theorem r1Power_ne {b:Int} (h0:0≤b) (h1:b≤63): r1Power b≠0:=by
 rw [r1Power_eq h0 h1]
 have:(0:Int) < 2 ^ b.toNat:=Int.pow_pos (by decide)
 omega
def r12Has.res (r:Bool): AV El:=.v (.bool (r))
def r12Has.news (r:Bool): List (AObj El):= []
def r12Has.L (e v:Bool): Prop:=r12Has.res e=r12Has.res v∧r12Has.news e=r12Has.news v
def r12Has (m:Int) (channel:Int): Bool:=bif bif decide ((0:Int)≤channel) then decide (channel≤(36:Int)) else false then Int.tmod (IntKind.wrap IntKind.u64 (Int.tdiv m (r1Power channel))) (2:Int)== (1:Int) else false
def r12Has.dec (cs:List (AV El)): Option (Int×Int):= popI .u64 cs fun a0 c0=>popI .i64 c0 fun a1 c1=>popE c1 (a0,a1)
def r12Has.enc (x:Int×Int): List (AV El):= [.v (.int .u64 x.1), .v (.int .i64 x.2)]
theorem r12Has.dec_ok : ∀cs x,r12Has.dec cs=some x→Imp (S:=S) cs (r12Has.enc x):= by
 intro cs x h
 unfold r12Has.dec at h
 obtain ⟨a0,c0,rfl,h0⟩:= popI_some (S:=S) h
 obtain ⟨a1,c1,rfl,h1⟩:= popI_some (S:=S) h0
 obtain ⟨rfl,rfl⟩:= popE_some (S:=S) h1
 exact (.cons (.cons (.refl _)))
def r12Has.nf (m:Int) (channel:Int) (v:Bool): Prop:=Ob (o3 (decide (0≤channel)))∧(Ob (o2 (decide (0≤channel)))∧(Ob (o3 (bif decide (0≤channel) then decide (channel≤36) else false))∧(Ob ((bif decide (0≤channel) then decide (channel≤36) else false)= true→channel≤9223372036854775807)∧(Ob (o3 (bif decide (0≤channel) then decide (channel≤36) else false))∧(Ob (o3 (bif decide (0≤channel) then decide (channel≤36) else false))∧(Ob ((bif decide (0≤channel) then decide (channel≤36) else false)= true→r1Power channel≠0)∧(Ob (o3 (bif decide (0≤channel) then decide (channel≤36) else false))∧(Ob ((bif decide (0≤channel) then decide (channel≤36) else false)= true→(2:Int)≠(0:Int))∧(Ob (o3 (bif decide (0≤channel) then decide (channel≤36) else false))∧(Ob (o2 (bif decide (0≤channel) then decide (channel≤36) else false))∧(r12Has.L (bif bif decide (0≤channel) then decide (channel≤36) else false then Int.tmod (IntKind.wrap IntKind.u64 (Int.tdiv m (r1Power channel))) (2:Int)== (1:Int) else false) v)))))))))))
theorem r12Has.nf_ok (m:Int) (channel:Int) (v:Bool): evFun (mkCx Tryz.prog S tab_r1Power 0) 4 145 [.v (.int .u64 m), .v (.int .i64 channel)] [] (fun r' H'=>Gives r' H' (r12Has.res v) (r12Has.news v))= r12Has.nf m channel v:=by kernel_rfl
theorem r12Has.key (m:Int) (channel:Int) (v:Bool) (hv:v=r12Has m channel): r12Has.nf m channel v:=by
 unfold r12Has at hv
 unfold r12Has.nf
 refine ⟨⟨o3_ok _⟩, ?_⟩
 refine ⟨⟨o2_ok _⟩, ?_⟩
 refine ⟨⟨o3_ok _⟩, ?_⟩
 refine ⟨⟨?_⟩, ?_⟩;rotate_left
 iterate 2 refine ⟨⟨o3_ok _⟩, ?_⟩
 refine ⟨⟨?_⟩, ?_⟩;rotate_left
 refine ⟨⟨o3_ok _⟩, ?_⟩
 refine ⟨⟨?_⟩, ?_⟩;rotate_left
 refine ⟨⟨o3_ok _⟩, ?_⟩
 refine ⟨⟨o2_ok _⟩, ?_⟩
 subst hv;exact ⟨rfl,rfl⟩
 all_goals ((try clear hv);(try clear q1 q2);(try clear hk);(first | omega | ((try simp only [decide_eq_true_eq,decide_eq_false_iff_not,Bool.not_eq_true,Bool.not_eq_false,Bool.and_eq_true,Bool.or_eq_true,Bool.not_not,cond_and,cond_or,List.length_append,List.length_cons,List.length_nil] at *);(first | done | ((first | omega | (intros;(try simp only [Bool.not_not,cond_and,cond_or,Bool.and_eq_true,decide_eq_true_eq] at *);exact r1Power_ne (by omega) (by omega))))))))
def r12Has.ct:Ct El:=ctOf r12Has.dec (fun _=>[]) (fun x=>r12Has.res (r12Has x.1 x.2)) (fun x=>r12Has.news (r12Has x.1 x.2))
theorem r12Has.ok:CtOk (mkCx Tryz.prog S [] 0) 145 r12Has.ct:=ct_mk (C:=(mkCx Tryz.prog S tab_r1Power 0)) (mkCx_ok sigOk mixed tab_r1Power_ok 0) r12Has.dec_ok (fun x=>rfl) 4 (fun x _=>(r12Has.nf_ok x.1 x.2 _).mpr (r12Has.key x.1 x.2 _ rfl))
def tab_r12Has:List (FuncId×Ct El):= (145,r12Has.ct):: tab_r1Power
theorem tab_r12Has_ok:TabOk Tryz.prog S tab_r12Has:=⟨r12Has.ok,by kernel_rfl,tab_r1Power_ok⟩
def r12List.res (r:(List Int)): AV El:=.gs 0
def r12List.news (r:(List Int)): List (AObj El):= [.row 3 (r:List (El 3))]
def r12List.L (e v:(List Int)): Prop:=r12List.res e=r12List.res v∧r12List.news e=r12List.news v
def r12List.go (m:Int): Nat→Int→(List Int)→(List Int)
 | 0,_,_=>[]
 | n0+1,i,out=>cond (decide (i≤(36:Int))) (cond (r12Has m i) (r12List.go m n0 (IntKind.wrap IntKind.i64 (i+(1:Int))) (out ++ [i])) (r12List.go m n0 (IntKind.wrap IntKind.i64 (i+(1:Int))) (out))) (out)
def r12List.hd (m:Int) (i:Int) (out:List Int): St El:={lo:=0,slots:=[(4, .v (.int .i64 (i))),(3, .gs 0),(0, .v (.int .u64 (m)))],n:=18,objs:=[.row 3 (out:List (El 3))]}
def r12List.st (m:Int) (i:Int) (out:List Int) (J:St El→Prop) (v:(List Int)): Prop:=cond (decide (i≤36)) (cond (r12Has m i) (Ob ((List.length out+List.length [i])* (8:Nat)≤(140737488355328:Nat))∧(J (r12List.hd m (IntKind.wrap IntKind.i64 (i+1)) (out ++ [i])))) (J (r12List.hd m (IntKind.wrap IntKind.i64 (i+1)) (out)))) (r12List.L (out) v)
theorem r12List.st_ok (m:Int) (i:Int) (out:List Int) (J:St El→Prop) (v:(List Int)): evCode (mkCx Tryz.prog S tab_r12Has 0) (evFun (mkCx Tryz.prog S tab_r12Has 0) 3) (loopB Tryz.prog 133 [true,true,false,true,false]) (r12List.hd m i out) (roundK (C:=(mkCx Tryz.prog S tab_r12Has 0)) [4,3,0] [] J (loopK (mkCx Tryz.prog S tab_r12Has 0) 3 133 [true,true,false,true,false] (fun r' H'=>Gives r' H' (r12List.res v) (r12List.news v))))= r12List.st m i out J v:=by kernel_rfl
def r12List.rng (m:Int) (n0:Nat) (i:Int) (out:List Int): Prop:=0≤i∧i≤37∧(37 - i).toNat < n0∧out.length≤i
theorem r12List.lp (m:Int) (v:(List Int)) (n0:Nat) (i:Int) (out:List Int) (hv:v=r12List.go m n0 i out) (h0:r12List.rng m n0 i out) (st:St El) (q1:okH [4,3,0] [] st=true) (q2:headS [4,3,0] [] st=r12List.hd m i out): evCode (mkCx Tryz.prog S tab_r12Has 0) (evFun (mkCx Tryz.prog S tab_r12Has 0) 3) (.loop (loopB Tryz.prog 133 [true,true,false,true,false])) st (loopK (mkCx Tryz.prog S tab_r12Has 0) 3 133 [true,true,false,true,false] (fun r' H'=>Gives r' H' (r12List.res v) (r12List.news v))):= by
 refine loop_ev (by kernel_rfl) (evFun_mono _ _) [4,3,0] [] (X:=Nat×Int×(List Int)) (fun x=>r12List.hd m x.2.1 x.2.2) (fun x=>x.1) (fun x=>r12List.rng m x.1 x.2.1 x.2.2∧v=r12List.go m x.1 x.2.1 x.2.2) (n0,i,out) ⟨q1,q2⟩ ⟨h0,hv⟩ ?_
 clear h0 hv q1 q2
 rintro ⟨n0,i,out⟩ ⟨hr,hv⟩
 dsimp only at hr hv
 cases n0 with
 | zero=>exact absurd hr (by unfold r12List.rng;omega)
 | succ n0 =>
 unfold r12List.rng at hr
 unfold r12List.go at hv
 refine (r12List.st_ok m i out _ _).mpr ?_
 unfold r12List.st
 revert hv;refine by_cond2 (fun hb hv=>?_) (fun hb hv=>?_)
 ·revert hv;refine by_cond2 (fun hb hv=>?_) (fun hb hv=>?_)
  ·refine ⟨⟨by (try clear hv);(try clear q1 q2);(try clear hk);(((try simp only [decide_eq_true_eq,decide_eq_false_iff_not,Bool.not_eq_true,Bool.not_eq_false,Bool.and_eq_true,Bool.or_eq_true,Bool.not_not,cond_and,cond_or,List.length_append,List.length_cons,List.length_nil] at *);(first | done | ((omega)))))⟩, ?_⟩
   exact ⟨(n0,(IntKind.wrap IntKind.i64 (i+(1:Int))),(out ++ [i])),(by kernel_rfl),Nat.lt_succ_self n0,(by dsimp only;unfold r12List.rng;(try clear hv);(try clear q1 q2);(try clear hk);(try simp only [decide_eq_true_eq,decide_eq_false_iff_not,Bool.not_eq_true,Bool.not_eq_false,Bool.and_eq_true,Bool.or_eq_true,Bool.not_not,cond_and,cond_or,List.length_append,List.length_cons,List.length_nil] at *);have:=wi64s (i+(1:Int));omega),hv⟩
  ·exact ⟨(n0,(IntKind.wrap IntKind.i64 (i+(1:Int))),(out)),(by kernel_rfl),Nat.lt_succ_self n0,(by dsimp only;unfold r12List.rng;(try clear hv);(try clear q1 q2);(try clear hk);(try simp only [decide_eq_true_eq,decide_eq_false_iff_not,Bool.not_eq_true,Bool.not_eq_false,Bool.and_eq_true,Bool.or_eq_true,Bool.not_not,cond_and,cond_or,List.length_append,List.length_cons,List.length_nil] at *);have:=wi64s (i+(1:Int));omega),hv⟩
 ·subst hv;exact ⟨rfl,rfl⟩
def r12List (m:Int): (List Int):= r12List.go m (38) ((0:Int)) ([])
def r12List.dec (cs:List (AV El)): Option (Int):= popI .u64 cs fun a0 c0=>popE c0 a0
def r12List.enc (x:Int): List (AV El):= [.v (.int .u64 x)]
theorem r12List.dec_ok : ∀cs x,r12List.dec cs=some x→Imp (S:=S) cs (r12List.enc x):= by
 intro cs x h
 unfold r12List.dec at h
 obtain ⟨a0,c0,rfl,h0⟩:= popI_some (S:=S) h
 obtain ⟨rfl,rfl⟩:= popE_some (S:=S) h0
 exact (.cons (.refl _))
def r12List.nf (m:Int) (v:(List Int)): Prop:=evCode (mkCx Tryz.prog S tab_r12Has 0) (evFun (mkCx Tryz.prog S tab_r12Has 0) 3) (.loop (loopB Tryz.prog 133 [true,true,false,true,false])) ({lo:=0,slots:=[(4, .v (.int .i64 (0))),(3, .gs 0),(5, .gs 0),(2, .v (.slice none 0 0)),(0, .v (.int .u64 (m)))],n:=18,objs:=[.row 3 ([]: List (El 3))]}) (loopK (mkCx Tryz.prog S tab_r12Has 0) 3 133 [true,true,false,true,false] (fun r' H'=>Gives r' H' (r12List.res v) (r12List.news v)))
theorem r12List.nf_ok (m:Int) (v:(List Int)): evFun (mkCx Tryz.prog S tab_r12Has 0) 4 133 [.v (.int .u64 m)] [] (fun r' H'=>Gives r' H' (r12List.res v) (r12List.news v))= r12List.nf m v:=by kernel_rfl
theorem r12List.key (m:Int) (v:(List Int)) (hv:v=r12List m): r12List.nf m v:=by
 unfold r12List at hv
 unfold r12List.nf
 exact r12List.lp m v _ _ _ hv (by unfold r12List.rng;(try clear hv);(try clear q1 q2);(try clear hk);((simp only [List.length_nil];omega))) _ (by kernel_rfl) (by kernel_rfl)
def r12List.ct:Ct El:=ctOf r12List.dec (fun _=>[]) (fun x=>r12List.res (r12List x)) (fun x=>r12List.news (r12List x))
theorem r12List.ok:CtOk (mkCx Tryz.prog S [] 0) 133 r12List.ct:=ct_mk (C:=(mkCx Tryz.prog S tab_r12Has 0)) (mkCx_ok sigOk mixed tab_r12Has_ok 0) r12List.dec_ok (fun x=>rfl) 4 (fun x _=>(r12List.nf_ok x _).mpr (r12List.key x _ rfl))
def tab_r12List:List (FuncId×Ct El):= (133,r12List.ct):: tab_r12Has
theorem tab_r12List_ok:TabOk Tryz.prog S tab_r12List:=⟨r12List.ok,by kernel_rfl,tab_r12Has_ok⟩
def r12Count.res (r:Int): AV El:=.v (.int .i64 (r))
def r12Count.news (r:Int): List (AObj El):= []
def r12Count.L (e v:Int): Prop:=r12Count.res e=r12Count.res v∧r12Count.news e=r12Count.news v
def r12Count (m:Int): Int:=(↑(List.length (r12List m)): Int)
def r12Count.dec (cs:List (AV El)): Option (Int):= popI .u64 cs fun a0 c0=>popE c0 a0
def r12Count.enc (x:Int): List (AV El):= [.v (.int .u64 x)]
theorem r12Count.dec_ok : ∀cs x,r12Count.dec cs=some x→Imp (S:=S) cs (r12Count.enc x):= by
 intro cs x h
 unfold r12Count.dec at h
 obtain ⟨a0,c0,rfl,h0⟩:= popI_some (S:=S) h
 obtain ⟨rfl,rfl⟩:= popE_some (S:=S) h0
 exact (.cons (.refl _))
def r12Count.nf (m:Int) (v:Int): Prop:=(List.length (r12List m)≤(9223372036854775807:Nat))→(r12Count.L ((↑(List.length (r12List m)): Int)) v)
theorem r12Count.nf_ok (m:Int) (v:Int): evFun (mkCx Tryz.prog S tab_r12List 0) 4 89 [.v (.int .u64 m)] [] (fun r' H'=>Gives r' H' (r12Count.res v) (r12Count.news v))= r12Count.nf m v:=by kernel_rfl
theorem r12Count.key (m:Int) (v:Int) (hv:v=r12Count m): r12Count.nf m v:=by
 unfold r12Count at hv
 unfold r12Count.nf
 intro hlen
 subst hv;exact ⟨rfl,rfl⟩
def r12Count.ct:Ct El:=ctOf r12Count.dec (fun _=>[]) (fun x=>r12Count.res (r12Count x)) (fun x=>r12Count.news (r12Count x))
theorem r12Count.ok:CtOk (mkCx Tryz.prog S [] 0) 89 r12Count.ct:=ct_mk (C:=(mkCx Tryz.prog S tab_r12List 0)) (mkCx_ok sigOk mixed tab_r12List_ok 0) r12Count.dec_ok (fun x=>rfl) 4 (fun x _=>(r12Count.nf_ok x _).mpr (r12Count.key x _ rfl))
def tab_r12Count:List (FuncId×Ct El):= (89,r12Count.ct):: tab_r12List
theorem tab_r12Count_ok:TabOk Tryz.prog S tab_r12Count:=⟨r12Count.ok,by kernel_rfl,tab_r12List_ok⟩
def r12Check.res (r:Int): AV El:=.v (.int .i64 (r))
def r12Check.news (r:Int): List (AObj El):= []
def r12Check.L (e v:Int): Prop:=r12Check.res e=r12Check.res v∧r12Check.news e=r12Check.news v
def r12Check (m:Int): Int:=cond (decide (r1Power (37:Int)≤m)) ((5:Int)) (cond (decide (r12Count m < (2:Int))) ((1:Int)) ((0:Int)))
def r12Check.dec (cs:List (AV El)): Option (Int):= popI .u64 cs fun a0 c0=>popE c0 a0
def r12Check.enc (x:Int): List (AV El):= [.v (.int .u64 x)]
theorem r12Check.dec_ok : ∀cs x,r12Check.dec cs=some x→Imp (S:=S) cs (r12Check.enc x):= by
 intro cs x h
 unfold r12Check.dec at h
 obtain ⟨a0,c0,rfl,h0⟩:= popI_some (S:=S) h
 obtain ⟨rfl,rfl⟩:= popE_some (S:=S) h0
 exact (.cons (.refl _))
def r12Check.nf (m:Int) (v:Int): Prop:=Ob ((37:Int)≤(9223372036854775807:Int))∧(cond (decide (r1Power (37:Int)≤m)) (r12Check.L ((5:Int)) v) (cond (decide (r12Count m < (2:Int))) (r12Check.L ((1:Int)) v) (r12Check.L ((0:Int)) v)))
theorem r12Check.nf_ok (m:Int) (v:Int): evFun (mkCx Tryz.prog S tab_r12Count 0) 4 46 [.v (.int .u64 m)] [] (fun r' H'=>Gives r' H' (r12Check.res v) (r12Check.news v))= r12Check.nf m v:=by kernel_rfl
theorem r12Check.key (m:Int) (v:Int) (hv:v=r12Check m): r12Check.nf m v:=by
 unfold r12Check at hv
 unfold r12Check.nf
 refine ⟨⟨by (try clear hv);(try clear q1 q2);(try clear hk);(omega)⟩, ?_⟩
 revert hv;refine by_cond2 (fun hb hv=>?_) (fun hb hv=>?_)
 ·subst hv;exact ⟨rfl,rfl⟩
 ·revert hv;refine by_cond2 (fun hb hv=>?_) (fun hb hv=>?_)
  ·subst hv;exact ⟨rfl,rfl⟩
  ·subst hv;exact ⟨rfl,rfl⟩
def r12Check.ct:Ct El:=ctOf r12Check.dec (fun _=>[]) (fun x=>r12Check.res (r12Check x)) (fun x=>r12Check.news (r12Check x))
theorem r12Check.ok:CtOk (mkCx Tryz.prog S [] 0) 46 r12Check.ct:=ct_mk (C:=(mkCx Tryz.prog S tab_r12Count 0)) (mkCx_ok sigOk mixed tab_r12Count_ok 0) r12Check.dec_ok (fun x=>rfl) 4 (fun x _=>(r12Check.nf_ok x _).mpr (r12Check.key x _ rfl))
def tab_r12Check:List (FuncId×Ct El):= (46,r12Check.ct):: tab_r12Count
theorem tab_r12Check_ok:TabOk Tryz.prog S tab_r12Check:=⟨r12Check.ok,by kernel_rfl,tab_r12Count_ok⟩
def r26Check.res (r:Int): AV El:=.v (.int .i64 (r))
def r26Check.news (r:Int): List (AObj El):= []
def r26Check.L (e v:Int): Prop:=r26Check.res e=r26Check.res v∧r26Check.news e=r26Check.news v
def r26Check (c:Control): Int:=cond (!(r26Fields c.Kind).Known) (12) (cond (!((r26rest c).Kind==0 && ((r26rest c).Update.WinSize==0 && ((r26rest c).Update.WinOffset==0 && ((r26rest c).Update.Interval==0 && ((r26rest c).Update.Latency==0 && ((r26rest c).Update.Timeout==0 && ((r26rest c).Map==0 && ((r26rest c).Instant==0 && ((r26rest c).Reason==0 && ((r26rest c).Rejected==0 && ((r26rest c).Salt==0 && ((r26rest c).Mark==0 && ((r26rest c).Features==0 && ((r26rest c).Version==0 && (r26rest c).Length==0))))))))))))))) (1) (cond ((r26Fields c.Kind).Update) (cond (r17CheckUpdate c.Update != 0) (r17CheckUpdate c.Update) (cond ((r26Fields c.Kind).Map) (cond (r12Check c.Map != 0) (r12Check c.Map) (cond (bif bif bif !r26isByte c.Reason then true else !r26isByte c.Rejected then true else !r26isByte c.Version then true else bif (r26Fields c.Kind).Length then bif decide (c.Length < 27) then true else decide (251 < c.Length) else false) (5) (0))) (cond (bif bif bif !r26isByte c.Reason then true else !r26isByte c.Rejected then true else !r26isByte c.Version then true else bif (r26Fields c.Kind).Length then bif decide (c.Length < 27) then true else decide (251 < c.Length) else false) (5) (0)))) (cond ((r26Fields c.Kind).Map) (cond (r12Check c.Map != 0) (r12Check c.Map) (cond (bif bif bif !r26isByte c.Reason then true else !r26isByte c.Rejected then true else !r26isByte c.Version then true else bif (r26Fields c.Kind).Length then bif decide (c.Length < 27) then true else decide (251 < c.Length) else false) (5) (0))) (cond (bif bif bif !r26isByte c.Reason then true else !r26isByte c.Rejected then true else !r26isByte c.Version then true else bif (r26Fields c.Kind).Length then bif decide (c.Length < 27) then true else decide (251 < c.Length) else false) (5) (0)))))
def r26Check.dec (cs:List (AV El)): Option (Control):= popA Control.dec cs fun a0 c0=>popE c0 a0
def r26Check.enc (x:Control): List (AV El):= [Control.av x]
theorem r26Check.dec_ok : ∀cs x,r26Check.dec cs=some x→Imp (S:=S) cs (r26Check.enc x):= by
 intro cs x h
 unfold r26Check.dec at h
 obtain ⟨a0,c0,h0,k0⟩:= popA_some (S:=S) Control.dec_ok h
 obtain ⟨rfl,rfl⟩:= popE_some (S:=S) h0
 exact (k0 _ (.refl _))
def r26Check_nf_g1 (c:Control): Bool:=bif (!r26isByte c.Reason) then true else (!r26isByte c.Rejected)
def r26Check_nf_g2 (c:Control): Bool:=bif (r26Check_nf_g1 c) then true else (!r26isByte c.Version)
def r26Check.nf (c:Control) (v:Int): Prop:=cond (!(r26Fields c.Kind).Known) (r26Check.L (12) v) (cond (!((r26rest c).Kind==0 && ((r26rest c).Update.WinSize==0 && ((r26rest c).Update.WinOffset==0 && ((r26rest c).Update.Interval==0 && ((r26rest c).Update.Latency==0 && ((r26rest c).Update.Timeout==0 && ((r26rest c).Map==0 && ((r26rest c).Instant==0 && ((r26rest c).Reason==0 && ((r26rest c).Rejected==0 && ((r26rest c).Salt==0 && ((r26rest c).Mark==0 && ((r26rest c).Features==0 && ((r26rest c).Version==0 && (r26rest c).Length==0))))))))))))))) (r26Check.L (1) v) (cond ((r26Fields c.Kind).Update) (cond (r17CheckUpdate c.Update != 0) (r26Check.L (r17CheckUpdate c.Update) v) (cond ((r26Fields c.Kind).Map) (cond (r12Check c.Map != 0) (r26Check.L (r12Check c.Map) v) (Ob (o3 (!!r26isByte c.Reason))∧(Ob (o3 (!!r26isByte c.Reason))∧(Ob (o3 (!!r26isByte c.Reason))∧(Ob (on (!r26isByte c.Reason))∧(Ob (o3 (!(r26Check_nf_g1 c)))∧(Ob (o3 (!(r26Check_nf_g1 c)))∧(Ob (o3 (!(r26Check_nf_g1 c)))∧(Ob (on (r26Check_nf_g1 c))∧(Ob (o3 (!(r26Check_nf_g2 c)))∧(Ob (o3 (!(r26Check_nf_g2 c)))∧(Ob (o3 ((!bif bif !r26isByte c.Reason then true else !r26isByte c.Rejected then true else !r26isByte c.Version) && (r26Fields c.Kind).Length))∧(Ob (o3 ((!bif bif !r26isByte c.Reason then true else !r26isByte c.Rejected then true else !r26isByte c.Version) && (r26Fields c.Kind).Length))∧(Ob (o3 ((!bif bif !r26isByte c.Reason then true else !r26isByte c.Rejected then true else !r26isByte c.Version) && (r26Fields c.Kind).Length))∧(Ob (o3 ((!bif bif !r26isByte c.Reason then true else !r26isByte c.Rejected then true else !r26isByte c.Version) && (r26Fields c.Kind).Length && !decide (c.Length < 27)))∧(Ob (o3 ((!bif bif !r26isByte c.Reason then true else !r26isByte c.Rejected then true else !r26isByte c.Version) && (r26Fields c.Kind).Length && !decide (c.Length < 27)))∧(Ob (o2 ((!bif bif !r26isByte c.Reason then true else !r26isByte c.Rejected then true else !r26isByte c.Version) && (r26Fields c.Kind).Length))∧(Ob (((!bif bif !r26isByte c.Reason then true else !r26isByte c.Rejected then true else !r26isByte c.Version) && (r26Fields c.Kind).Length)= true→decide (c.Length < 27)= false→((!bif bif !r26isByte c.Reason then true else !r26isByte c.Rejected then true else !r26isByte c.Version) && (r26Fields c.Kind).Length && !decide (c.Length < 27))= true)∧(Ob (o2 (!(r26Check_nf_g2 c)))∧(Ob ((!bif bif !r26isByte c.Reason then true else !r26isByte c.Rejected then true else !r26isByte c.Version)= true→(r26Fields c.Kind).Length=true→((!bif bif !r26isByte c.Reason then true else !r26isByte c.Rejected then true else !r26isByte c.Version) && (r26Fields c.Kind).Length)= true)∧(Ob (on (r26Check_nf_g2 c))∧(cond (bif bif bif !r26isByte c.Reason then true else !r26isByte c.Rejected then true else !r26isByte c.Version then true else bif (r26Fields c.Kind).Length then bif decide (c.Length < 27) then true else decide (251 < c.Length) else false) (r26Check.L (5) v) (r26Check.L (0) v))))))))))))))))))))))) (Ob (o3 (!!r26isByte c.Reason))∧(Ob (o3 (!!r26isByte c.Reason))∧(Ob (o3 (!!r26isByte c.Reason))∧(Ob (on (!r26isByte c.Reason))∧(Ob (o3 (!(r26Check_nf_g1 c)))∧(Ob (o3 (!(r26Check_nf_g1 c)))∧(Ob (o3 (!(r26Check_nf_g1 c)))∧(Ob (on (r26Check_nf_g1 c))∧(Ob (o3 (!(r26Check_nf_g2 c)))∧(Ob (o3 (!(r26Check_nf_g2 c)))∧(Ob (o3 ((!bif bif !r26isByte c.Reason then true else !r26isByte c.Rejected then true else !r26isByte c.Version) && (r26Fields c.Kind).Length))∧(Ob (o3 ((!bif bif !r26isByte c.Reason then true else !r26isByte c.Rejected then true else !r26isByte c.Version) && (r26Fields c.Kind).Length))∧(Ob (o3 ((!bif bif !r26isByte c.Reason then true else !r26isByte c.Rejected then true else !r26isByte c.Version) && (r26Fields c.Kind).Length))∧(Ob (o3 ((!bif bif !r26isByte c.Reason then true else !r26isByte c.Rejected then true else !r26isByte c.Version) && (r26Fields c.Kind).Length && !decide (c.Length < 27)))∧(Ob (o3 ((!bif bif !r26isByte c.Reason then true else !r26isByte c.Rejected then true else !r26isByte c.Version) && (r26Fields c.Kind).Length && !decide (c.Length < 27)))∧(Ob (o2 ((!bif bif !r26isByte c.Reason then true else !r26isByte c.Rejected then true else !r26isByte c.Version) && (r26Fields c.Kind).Length))∧(Ob (((!bif bif !r26isByte c.Reason then true else !r26isByte c.Rejected then true else !r26isByte c.Version) && (r26Fields c.Kind).Length)= true→decide (c.Length < 27)= false→((!bif bif !r26isByte c.Reason then true else !r26isByte c.Rejected then true else !r26isByte c.Version) && (r26Fields c.Kind).Length && !decide (c.Length < 27))= true)∧(Ob (o2 (!(r26Check_nf_g2 c)))∧(Ob ((!bif bif !r26isByte c.Reason then true else !r26isByte c.Rejected then true else !r26isByte c.Version)= true→(r26Fields c.Kind).Length=true→((!bif bif !r26isByte c.Reason then true else !r26isByte c.Rejected then true else !r26isByte c.Version) && (r26Fields c.Kind).Length)= true)∧(Ob (on (r26Check_nf_g2 c))∧(cond (bif bif bif !r26isByte c.Reason then true else !r26isByte c.Rejected then true else !r26isByte c.Version then true else bif (r26Fields c.Kind).Length then bif decide (c.Length < 27) then true else decide (251 < c.Length) else false) (r26Check.L (5) v) (r26Check.L (0) v)))))))))))))))))))))))) (cond ((r26Fields c.Kind).Map) (cond (r12Check c.Map != 0) (r26Check.L (r12Check c.Map) v) (Ob (o3 (!!r26isByte c.Reason))∧(Ob (o3 (!!r26isByte c.Reason))∧(Ob (o3 (!!r26isByte c.Reason))∧(Ob (on (!r26isByte c.Reason))∧(Ob (o3 (!(r26Check_nf_g1 c)))∧(Ob (o3 (!(r26Check_nf_g1 c)))∧(Ob (o3 (!(r26Check_nf_g1 c)))∧(Ob (on (r26Check_nf_g1 c))∧(Ob (o3 (!(r26Check_nf_g2 c)))∧(Ob (o3 (!(r26Check_nf_g2 c)))∧(Ob (o3 ((!bif bif !r26isByte c.Reason then true else !r26isByte c.Rejected then true else !r26isByte c.Version) && (r26Fields c.Kind).Length))∧(Ob (o3 ((!bif bif !r26isByte c.Reason then true else !r26isByte c.Rejected then true else !r26isByte c.Version) && (r26Fields c.Kind).Length))∧(Ob (o3 ((!bif bif !r26isByte c.Reason then true else !r26isByte c.Rejected then true else !r26isByte c.Version) && (r26Fields c.Kind).Length))∧(Ob (o3 ((!bif bif !r26isByte c.Reason then true else !r26isByte c.Rejected then true else !r26isByte c.Version) && (r26Fields c.Kind).Length && !decide (c.Length < 27)))∧(Ob (o3 ((!bif bif !r26isByte c.Reason then true else !r26isByte c.Rejected then true else !r26isByte c.Version) && (r26Fields c.Kind).Length && !decide (c.Length < 27)))∧(Ob (o2 ((!bif bif !r26isByte c.Reason then true else !r26isByte c.Rejected then true else !r26isByte c.Version) && (r26Fields c.Kind).Length))∧(Ob (((!bif bif !r26isByte c.Reason then true else !r26isByte c.Rejected then true else !r26isByte c.Version) && (r26Fields c.Kind).Length)= true→decide (c.Length < 27)= false→((!bif bif !r26isByte c.Reason then true else !r26isByte c.Rejected then true else !r26isByte c.Version) && (r26Fields c.Kind).Length && !decide (c.Length < 27))= true)∧(Ob (o2 (!(r26Check_nf_g2 c)))∧(Ob ((!bif bif !r26isByte c.Reason then true else !r26isByte c.Rejected then true else !r26isByte c.Version)= true→(r26Fields c.Kind).Length=true→((!bif bif !r26isByte c.Reason then true else !r26isByte c.Rejected then true else !r26isByte c.Version) && (r26Fields c.Kind).Length)= true)∧(Ob (on (r26Check_nf_g2 c))∧(cond (bif bif bif !r26isByte c.Reason then true else !r26isByte c.Rejected then true else !r26isByte c.Version then true else bif (r26Fields c.Kind).Length then bif decide (c.Length < 27) then true else decide (251 < c.Length) else false) (r26Check.L (5) v) (r26Check.L (0) v))))))))))))))))))))))) (Ob (o3 (!!r26isByte c.Reason))∧(Ob (o3 (!!r26isByte c.Reason))∧(Ob (o3 (!!r26isByte c.Reason))∧(Ob (on (!r26isByte c.Reason))∧(Ob (o3 (!(r26Check_nf_g1 c)))∧(Ob (o3 (!(r26Check_nf_g1 c)))∧(Ob (o3 (!(r26Check_nf_g1 c)))∧(Ob (on (r26Check_nf_g1 c))∧(Ob (o3 (!(r26Check_nf_g2 c)))∧(Ob (o3 (!(r26Check_nf_g2 c)))∧(Ob (o3 ((!bif bif !r26isByte c.Reason then true else !r26isByte c.Rejected then true else !r26isByte c.Version) && (r26Fields c.Kind).Length))∧(Ob (o3 ((!bif bif !r26isByte c.Reason then true else !r26isByte c.Rejected then true else !r26isByte c.Version) && (r26Fields c.Kind).Length))∧(Ob (o3 ((!bif bif !r26isByte c.Reason then true else !r26isByte c.Rejected then true else !r26isByte c.Version) && (r26Fields c.Kind).Length))∧(Ob (o3 ((!bif bif !r26isByte c.Reason then true else !r26isByte c.Rejected then true else !r26isByte c.Version) && (r26Fields c.Kind).Length && !decide (c.Length < 27)))∧(Ob (o3 ((!bif bif !r26isByte c.Reason then true else !r26isByte c.Rejected then true else !r26isByte c.Version) && (r26Fields c.Kind).Length && !decide (c.Length < 27)))∧(Ob (o2 ((!bif bif !r26isByte c.Reason then true else !r26isByte c.Rejected then true else !r26isByte c.Version) && (r26Fields c.Kind).Length))∧(Ob (((!bif bif !r26isByte c.Reason then true else !r26isByte c.Rejected then true else !r26isByte c.Version) && (r26Fields c.Kind).Length)= true→decide (c.Length < 27)= false→((!bif bif !r26isByte c.Reason then true else !r26isByte c.Rejected then true else !r26isByte c.Version) && (r26Fields c.Kind).Length && !decide (c.Length < 27))= true)∧(Ob (o2 (!(r26Check_nf_g2 c)))∧(Ob ((!bif bif !r26isByte c.Reason then true else !r26isByte c.Rejected then true else !r26isByte c.Version)= true→(r26Fields c.Kind).Length=true→((!bif bif !r26isByte c.Reason then true else !r26isByte c.Rejected then true else !r26isByte c.Version) && (r26Fields c.Kind).Length)= true)∧(Ob (on (r26Check_nf_g2 c))∧(cond (bif bif bif !r26isByte c.Reason then true else !r26isByte c.Rejected then true else !r26isByte c.Version then true else bif (r26Fields c.Kind).Length then bif decide (c.Length < 27) then true else decide (251 < c.Length) else false) (r26Check.L (5) v) (r26Check.L (0) v)))))))))))))))))))))))))
theorem r26Check.nf_ok (c:Control) (v:Int): evFun (mkCx Tryz.prog S tab_r12Check 0) 4 15 [Control.av c] [] (fun r' H'=>Gives r' H' (r26Check.res v) (r26Check.news v))= r26Check.nf c v:=by kernel_rfl
theorem r26Check.key (c:Control) (v:Int) (hv:v=r26Check c): r26Check.nf c v:=by
 unfold r26Check at hv
 unfold r26Check.nf
 revert hv;refine by_cond2 (fun hb hv=>?_) (fun hb hv=>?_)
 subst hv;exact ⟨rfl,rfl⟩
 revert hv;refine by_cond2 (fun hb hv=>?_) (fun hb hv=>?_)
 subst hv;exact ⟨rfl,rfl⟩
 revert hv;refine by_cond2 (fun hb hv=>?_) (fun hb hv=>?_)
 revert hv;refine by_cond2 (fun hb hv=>?_) (fun hb hv=>?_)
 subst hv;exact ⟨rfl,rfl⟩
 revert hv;refine by_cond2 (fun hb hv=>?_) (fun hb hv=>?_)
 revert hv;refine by_cond2 (fun hb hv=>?_) (fun hb hv=>?_)
 subst hv;exact ⟨rfl,rfl⟩
 iterate 3 refine ⟨⟨o3_ok _⟩, ?_⟩
 refine ⟨⟨on_ok _⟩, ?_⟩
 iterate 3 refine ⟨⟨o3_ok _⟩, ?_⟩
 refine ⟨⟨on_ok _⟩, ?_⟩
 iterate 7 refine ⟨⟨o3_ok _⟩, ?_⟩
 refine ⟨⟨o2_ok _⟩, ?_⟩
 refine ⟨⟨?_⟩, ?_⟩;rotate_left
 refine ⟨⟨o2_ok _⟩, ?_⟩
 refine ⟨⟨?_⟩, ?_⟩;rotate_left
 refine ⟨⟨on_ok _⟩, ?_⟩
 revert hv;refine by_cond2 (fun hb hv=>?_) (fun hb hv=>?_)
 subst hv;exact ⟨rfl,rfl⟩
 subst hv;exact ⟨rfl,rfl⟩
 iterate 3 refine ⟨⟨o3_ok _⟩, ?_⟩
 refine ⟨⟨on_ok _⟩, ?_⟩
 iterate 3 refine ⟨⟨o3_ok _⟩, ?_⟩
 refine ⟨⟨on_ok _⟩, ?_⟩
 iterate 7 refine ⟨⟨o3_ok _⟩, ?_⟩
 refine ⟨⟨o2_ok _⟩, ?_⟩
 refine ⟨⟨?_⟩, ?_⟩;rotate_left
 refine ⟨⟨o2_ok _⟩, ?_⟩
 refine ⟨⟨?_⟩, ?_⟩;rotate_left
 refine ⟨⟨on_ok _⟩, ?_⟩
 revert hv;refine by_cond2 (fun hb hv=>?_) (fun hb hv=>?_)
 subst hv;exact ⟨rfl,rfl⟩
 subst hv;exact ⟨rfl,rfl⟩
 revert hv;refine by_cond2 (fun hb hv=>?_) (fun hb hv=>?_)
 revert hv;refine by_cond2 (fun hb hv=>?_) (fun hb hv=>?_)
 subst hv;exact ⟨rfl,rfl⟩
 iterate 3 refine ⟨⟨o3_ok _⟩, ?_⟩
 refine ⟨⟨on_ok _⟩, ?_⟩
 iterate 3 refine ⟨⟨o3_ok _⟩, ?_⟩
 refine ⟨⟨on_ok _⟩, ?_⟩
 iterate 7 refine ⟨⟨o3_ok _⟩, ?_⟩
 refine ⟨⟨o2_ok _⟩, ?_⟩
 refine ⟨⟨?_⟩, ?_⟩;rotate_left
 refine ⟨⟨o2_ok _⟩, ?_⟩
 refine ⟨⟨?_⟩, ?_⟩;rotate_left
 refine ⟨⟨on_ok _⟩, ?_⟩
 revert hv;refine by_cond2 (fun hb hv=>?_) (fun hb hv=>?_)
 subst hv;exact ⟨rfl,rfl⟩
 subst hv;exact ⟨rfl,rfl⟩
 iterate 3 refine ⟨⟨o3_ok _⟩, ?_⟩
 refine ⟨⟨on_ok _⟩, ?_⟩
 iterate 3 refine ⟨⟨o3_ok _⟩, ?_⟩
 refine ⟨⟨on_ok _⟩, ?_⟩
 iterate 7 refine ⟨⟨o3_ok _⟩, ?_⟩
 refine ⟨⟨o2_ok _⟩, ?_⟩
 refine ⟨⟨?_⟩, ?_⟩;rotate_left
 refine ⟨⟨o2_ok _⟩, ?_⟩
 refine ⟨⟨?_⟩, ?_⟩;rotate_left
 refine ⟨⟨on_ok _⟩, ?_⟩
 revert hv;refine by_cond2 (fun hb hv=>?_) (fun hb hv=>?_)
 subst hv;exact ⟨rfl,rfl⟩
 subst hv;exact ⟨rfl,rfl⟩
 all_goals ((try clear hv);(try clear q1 q2);(try clear hk);(((try simp only [decide_eq_true_eq,decide_eq_false_iff_not,Bool.not_eq_true,Bool.not_eq_false,Bool.and_eq_true,Bool.or_eq_true,Bool.not_not,cond_and,cond_or,List.length_append,List.length_cons,List.length_nil] at *);(first | done | (((intros;simp_all [Bool.not_not];done)))))))
def r26Check.ct:Ct El:=ctOf r26Check.dec (fun _=>[]) (fun x=>r26Check.res (r26Check x)) (fun x=>r26Check.news (r26Check x))
theorem r26Check.ok:CtOk (mkCx Tryz.prog S [] 0) 15 r26Check.ct:=ct_mk (C:=(mkCx Tryz.prog S tab_r12Check 0)) (mkCx_ok sigOk mixed tab_r12Check_ok 0) r26Check.dec_ok (fun x=>rfl) 4 (fun x _=>(r26Check.nf_ok x _).mpr (r26Check.key x _ rfl))
def tab_r26Check:List (FuncId×Ct El):= (15,r26Check.ct):: tab_r12Check
theorem tab_r26Check_ok:TabOk Tryz.prog S tab_r26Check:=⟨r26Check.ok,by kernel_rfl,tab_r12Check_ok⟩
end Go.Aw.W
