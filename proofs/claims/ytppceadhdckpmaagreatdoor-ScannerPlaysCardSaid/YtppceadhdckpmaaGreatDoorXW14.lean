/- Contracts of the seat (printed by ct.py). -/
import Derived.Test.YtppceadhdckpmaaGreatDoorXW13
set_option linter.unusedVariables false
set_option linter.unusedSimpArgs false
set_option maxRecDepth 20000
set_option maxHeartbeats 1000000
namespace Go.Aw.W
open Go Go.Aw Go.Proofs
attribute [local irreducible] evCode evFun evOps evDs evOne ctxK loopK loopB subC bodyC headS okH roundK
def ones1 (x:Int): Int:=IntKind.wrap IntKind.u64 (bandK IntKind.u64 (shrK IntKind.u64 x (1:Int)) (6148914691236517205:Int)+ bandK IntKind.u64 x (6148914691236517205:Int))
def ones2 (x:Int): Int:=IntKind.wrap IntKind.u64 (bandK IntKind.u64 (shrK IntKind.u64 x (2:Int)) (3689348814741910323:Int)+ bandK IntKind.u64 x (3689348814741910323:Int))
def ones3 (x:Int): Int:=bandK IntKind.u64 (IntKind.wrap IntKind.u64 (shrK IntKind.u64 x (4:Int)+ x)) (1085102592571150095:Int)
def ones4 (k x:Int): Int:=IntKind.wrap IntKind.u64 (x+shrK IntKind.u64 x k)
def ones (x:Int): Int:=bandK IntKind.i64 (IntKind.wrap IntKind.i64 (ones4 32 (ones4 16 (ones4 8 (ones3 (ones2 (ones1 x))))))) (127:Int)
def ones.dec (cs:List (AV El)): Option Int:=popI .u64 cs fun a0 c0=>popE c0 a0
def ones.enc (x:Int): List (AV El):= [.v (.int .u64 x)]
theorem ones.dec_ok : ∀cs x,ones.dec cs=some x→Imp (S:=S) cs (ones.enc x):= by
 intro cs x h
 unfold ones.dec at h
 obtain ⟨a0,c0,rfl,h0⟩:= popI_some (S:=S) h
 obtain ⟨rfl,rfl⟩:= popE_some (S:=S) h0
 exact (.cons (.refl _))
def ones.ct:Ct El:=ctOf ones.dec (fun _=>[]) (fun x => .v (.int .i64 (ones x))) (fun _=>[])
theorem ones.nf_ok (x:Int) (K:AV El→List (AObj El)→Prop): evFun (mkCx Tryz.prog S tab_cwithin 0) 3 95 [.v (.int .u64 x)] [] K=(Ob ((0:Int)≤1)∧Ob ((0:Int)≤2)∧Ob ((0:Int)≤4)∧Ob ((0:Int)≤8)∧Ob ((0:Int)≤16)∧Ob ((0:Int)≤32)∧K (.v (.int .i64 (ones x))) []):= by kernel_rfl
theorem ones.ok:CtOk (mkCx Tryz.prog S [] 0) 95 ones.ct:=ct_mk (C:=(mkCx Tryz.prog S tab_cwithin 0)) (mkCx_ok sigOk mixed tab_cwithin_ok 0) ones.dec_ok (fun x=>rfl) 3 (fun x _=>(ones.nf_ok x _).mpr ⟨⟨by decide⟩,⟨by decide⟩,⟨by decide⟩,⟨by decide⟩,⟨by decide⟩,⟨by decide⟩,And.intro (by kernel_rfl) (by kernel_rfl)⟩)
def tab_ones:List (FuncId×Ct El):= (95,ones.ct):: tab_cwithin
theorem tab_ones_ok:TabOk Tryz.prog S tab_ones:=⟨ones.ok,by kernel_rfl,tab_cwithin_ok⟩
def cCheckUpdate.res (r:Int): AV El:=.v (.int .i64 (r))
def cCheckUpdate.news (r:Int): List (AObj El):= []
def cCheckUpdate.L (e v:Int): Prop:=cCheckUpdate.res e=cCheckUpdate.res v∧cCheckUpdate.news e=cCheckUpdate.news v
def cCheckUpdate (u:Update): Int:=cond (!cwithin [{n:=u.WinSize,low:=(1:Int),high:=(8:Int): ConnectSpan},{n:=u.WinOffset,low:=(0:Int),high:=(3200:Int): ConnectSpan},{n:=u.Interval,low:=(6:Int),high:=(3200:Int): ConnectSpan},{n:=u.Latency,low:=(0:Int),high:=(499:Int): ConnectSpan},{n:=u.Timeout,low:=(10:Int),high:=(3200:Int): ConnectSpan}]) ((5:Int)) (cond (bif bif decide (u.Interval≤u.WinSize) then true else decide (u.Interval < u.WinOffset) then true else decide (IntKind.wrap IntKind.i64 (u.Timeout*(10000:Int))≤IntKind.wrap IntKind.i64 (IntKind.wrap IntKind.i64 (IntKind.wrap IntKind.i64 ((2:Int)* IntKind.wrap IntKind.i64 (u.Latency+(1:Int)))* u.Interval)* (1250:Int)))) ((11:Int)) ((0:Int)))
def cCheckUpdate.dec (cs:List (AV El)): Option (Update):= popA Update.dec cs fun a0 c0=>popE c0 a0
def cCheckUpdate.enc (x:Update): List (AV El):= [Update.av x]
theorem cCheckUpdate.dec_ok : ∀cs x,cCheckUpdate.dec cs=some x→Imp (S:=S) cs (cCheckUpdate.enc x):= by
 intro cs x h
 unfold cCheckUpdate.dec at h
 obtain ⟨a0,c0,h0,k0⟩:= popA_some (S:=S) Update.dec_ok h
 obtain ⟨rfl,rfl⟩:= popE_some (S:=S) h0
 exact (k0 _ (.refl _))
def cCheckUpdate.nf (u:Update) (v:Int): Prop:=cond (!cwithin [{n:=u.WinSize,low:=(1:Int),high:=(8:Int): ConnectSpan},{n:=u.WinOffset,low:=(0:Int),high:=(3200:Int): ConnectSpan},{n:=u.Interval,low:=(6:Int),high:=(3200:Int): ConnectSpan},{n:=u.Latency,low:=(0:Int),high:=(499:Int): ConnectSpan},{n:=u.Timeout,low:=(10:Int),high:=(3200:Int): ConnectSpan}]) (cCheckUpdate.L ((5:Int)) v) (Ob (o3 (!decide (u.Interval≤u.WinSize)))∧(Ob (o3 (!decide (u.Interval≤u.WinSize)))∧(Ob (o3 (!decide (u.Interval≤u.WinSize)))∧(Ob (o3 (!decide (u.Interval≤u.WinSize)))∧(Ob (on (decide (u.Interval≤u.WinSize)))∧(Ob (o3 (!bif decide (u.Interval≤u.WinSize) then true else decide (u.Interval < u.WinOffset)))∧(Ob (o3 (!bif decide (u.Interval≤u.WinSize) then true else decide (u.Interval < u.WinOffset)))∧(Ob (o3 (!bif decide (u.Interval≤u.WinSize) then true else decide (u.Interval < u.WinOffset)))∧(Ob (o3 (!bif decide (u.Interval≤u.WinSize) then true else decide (u.Interval < u.WinOffset)))∧(Ob (o3 (!bif decide (u.Interval≤u.WinSize) then true else decide (u.Interval < u.WinOffset)))∧(Ob (o3 (!bif decide (u.Interval≤u.WinSize) then true else decide (u.Interval < u.WinOffset)))∧(Ob (o3 (!bif decide (u.Interval≤u.WinSize) then true else decide (u.Interval < u.WinOffset)))∧(Ob (o3 (!bif decide (u.Interval≤u.WinSize) then true else decide (u.Interval < u.WinOffset)))∧(Ob (o3 (!bif decide (u.Interval≤u.WinSize) then true else decide (u.Interval < u.WinOffset)))∧(Ob (o3 (!bif decide (u.Interval≤u.WinSize) then true else decide (u.Interval < u.WinOffset)))∧(Ob (o3 (!bif decide (u.Interval≤u.WinSize) then true else decide (u.Interval < u.WinOffset)))∧(Ob (on (bif decide (u.Interval≤u.WinSize) then true else decide (u.Interval < u.WinOffset)))∧(cond (bif bif decide (u.Interval≤u.WinSize) then true else decide (u.Interval < u.WinOffset) then true else decide (IntKind.wrap IntKind.i64 (u.Timeout*(10000:Int))≤IntKind.wrap IntKind.i64 (IntKind.wrap IntKind.i64 (IntKind.wrap IntKind.i64 ((2:Int)* IntKind.wrap IntKind.i64 (u.Latency+(1:Int)))* u.Interval)* (1250:Int)))) (cCheckUpdate.L ((11:Int)) v) (cCheckUpdate.L ((0:Int)) v)))))))))))))))))))
theorem cCheckUpdate.nf_ok (u:Update) (v:Int): evFun (mkCxI Tryz.prog S tab_ones 0 false sum_fIdx) 4 73 [Update.av u] [] (fun r' H'=>Gives r' H' (cCheckUpdate.res v) (cCheckUpdate.news v))= cCheckUpdate.nf u v:=by kernel_rfl
theorem cCheckUpdate.key (u:Update) (v:Int) (hv:v=cCheckUpdate u): cCheckUpdate.nf u v:=by
 unfold cCheckUpdate at hv
 unfold cCheckUpdate.nf
 revert hv;refine by_cond2 (fun hb hv=>?_) (fun hb hv=>?_)
 ·subst hv;exact ⟨rfl,rfl⟩
 ·refine ⟨⟨o3_ok _⟩, ?_⟩
  iterate 3 refine ⟨⟨o3_ok _⟩, ?_⟩
  refine ⟨⟨on_ok _⟩, ?_⟩
  iterate 11 refine ⟨⟨o3_ok _⟩, ?_⟩
  refine ⟨⟨on_ok _⟩, ?_⟩
  revert hv;refine by_cond2 (fun hb hv=>?_) (fun hb hv=>?_)
  ·subst hv;exact ⟨rfl,rfl⟩
  ·subst hv;exact ⟨rfl,rfl⟩
def cCheckUpdate.ct:Ct El:=ctOf cCheckUpdate.dec (fun _=>[]) (fun x=>cCheckUpdate.res (cCheckUpdate x)) (fun x=>cCheckUpdate.news (cCheckUpdate x))
theorem cCheckUpdate.ok:CtOk (mkCx Tryz.prog S [] 0) 73 cCheckUpdate.ct:=ct_mk (C:=(mkCxI Tryz.prog S tab_ones 0 false sum_fIdx)) (mkCxI_ok sigOk mixed tab_ones_ok 0 false sum_fIdx_ok) cCheckUpdate.dec_ok (fun x=>rfl) 4 (fun x _=>(cCheckUpdate.nf_ok x _).mpr (cCheckUpdate.key x _ rfl))
def tab_cCheckUpdate:List (FuncId×Ct El):= (73,cCheckUpdate.ct):: tab_ones
theorem tab_cCheckUpdate_ok:TabOk Tryz.prog S tab_cCheckUpdate:=⟨cCheckUpdate.ok,by kernel_rfl,tab_ones_ok⟩
def kOnes.res (r:Int): AV El:=.v (.int .i64 (r))
def kOnes.news (r:Int): List (AObj El):= []
def kOnes.L (e v:Int): Prop:=kOnes.res e=kOnes.res v∧kOnes.news e=kOnes.news v
def kOnes (m:Int): Int:=ones (bandK IntKind.u64 m (137438953471:Int))
def kOnes.dec (cs:List (AV El)): Option (Int):= popI .u64 cs fun a0 c0=>popE c0 a0
def kOnes.enc (x:Int): List (AV El):= [.v (.int .u64 x)]
theorem kOnes.dec_ok : ∀cs x,kOnes.dec cs=some x→Imp (S:=S) cs (kOnes.enc x):= by
 intro cs x h
 unfold kOnes.dec at h
 obtain ⟨a0,c0,rfl,h0⟩:= popI_some (S:=S) h
 obtain ⟨rfl,rfl⟩:= popE_some (S:=S) h0
 exact (.cons (.refl _))
def kOnes.nf (m:Int) (v:Int): Prop:=kOnes.L (ones (bandK IntKind.u64 m (137438953471:Int))) v
theorem kOnes.nf_ok (m:Int) (v:Int): evFun (mkCxI Tryz.prog S tab_ones 0 false sum_fIdx) 4 86 [.v (.int .u64 m)] [] (fun r' H'=>Gives r' H' (kOnes.res v) (kOnes.news v))= kOnes.nf m v:=by kernel_rfl
theorem kOnes.key (m:Int) (v:Int) (hv:v=kOnes m): kOnes.nf m v:=by
 unfold kOnes at hv
 unfold kOnes.nf
 subst hv;exact ⟨rfl,rfl⟩
def kOnes.ct:Ct El:=ctOf kOnes.dec (fun _=>[]) (fun x=>kOnes.res (kOnes x)) (fun x=>kOnes.news (kOnes x))
theorem kOnes.ok:CtOk (mkCx Tryz.prog S [] 0) 86 kOnes.ct:=ct_mk (C:=(mkCxI Tryz.prog S tab_ones 0 false sum_fIdx)) (mkCxI_ok sigOk mixed tab_ones_ok 0 false sum_fIdx_ok) kOnes.dec_ok (fun x=>rfl) 4 (fun x _=>(kOnes.nf_ok x _).mpr (kOnes.key x _ rfl))
def tab_kOnes:List (FuncId×Ct El):= (86,kOnes.ct):: tab_cCheckUpdate
theorem tab_kOnes_ok:TabOk Tryz.prog S tab_kOnes:=⟨kOnes.ok,by kernel_rfl,tab_cCheckUpdate_ok⟩
end Go.Aw.W
