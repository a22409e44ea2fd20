/- Contracts of the seat (printed by ct.py). -/
import Derived.Test.YtppceadhdckpmaaGreatDoorXW11
set_option linter.unusedVariables false
set_option linter.unusedSimpArgs false
set_option maxRecDepth 20000
set_option maxHeartbeats 1000000
namespace Go.Aw.W
open Go Go.Aw Go.Proofs
attribute [local irreducible] evCode evFun evOps evDs evOne ctxK loopK loopB subC bodyC headS okH roundK
def r17within.res (r:Bool): AV El:=.v (.bool (r))
def r17within.news (r:Bool): List (AObj El):= []
def r17within.L (e v:Bool): Prop:=r17within.res e=r17within.res v∧r17within.news e=r17within.news v
def r17within (n:Int) (low:Int) (high:Int): Bool:=bif decide (low≤n) then decide (n≤high) else false
def r17within.dec (cs:List (AV El)): Option (Int×Int×Int):= popI .i64 cs fun a0 c0=>popI .i64 c0 fun a1 c1=>popI .i64 c1 fun a2 c2=>popE c2 (a0,a1,a2)
def r17within.enc (x:Int×Int×Int): List (AV El):= [.v (.int .i64 x.1), .v (.int .i64 x.2.1), .v (.int .i64 x.2.2)]
theorem r17within.dec_ok : ∀cs x,r17within.dec cs=some x→Imp (S:=S) cs (r17within.enc x):= by
 intro cs x h
 unfold r17within.dec at h
 obtain ⟨a0,c0,rfl,h0⟩:= popI_some (S:=S) h
 obtain ⟨a1,c1,rfl,h1⟩:= popI_some (S:=S) h0
 obtain ⟨a2,c2,rfl,h2⟩:= popI_some (S:=S) h1
 obtain ⟨rfl,rfl⟩:= popE_some (S:=S) h2
 exact (.cons (.cons (.cons (.refl _))))
def r17within.nf (n:Int) (low:Int) (high:Int) (v:Bool): Prop:=Ob (o3 (decide (low≤n)))∧(Ob (o3 (decide (low≤n)))∧(Ob (o2 (decide (low≤n)))∧(r17within.L (bif decide (low≤n) then decide (n≤high) else false) v)))
theorem r17within.nf_ok (n:Int) (low:Int) (high:Int) (v:Bool): evFun (mkCxI Tryz.prog S tab_r9Find 0 false sum_fIdx) 4 79 [.v (.int .i64 n), .v (.int .i64 low), .v (.int .i64 high)] [] (fun r' H'=>Gives r' H' (r17within.res v) (r17within.news v))= r17within.nf n low high v:=by kernel_rfl
theorem r17within.key (n:Int) (low:Int) (high:Int) (v:Bool) (hv:v=r17within n low high): r17within.nf n low high v:=by
 unfold r17within at hv
 unfold r17within.nf
 iterate 2 refine ⟨⟨o3_ok _⟩, ?_⟩
 refine ⟨⟨o2_ok _⟩, ?_⟩
 subst hv;exact ⟨rfl,rfl⟩
def r17within.ct:Ct El:=ctOf r17within.dec (fun _=>[]) (fun x=>r17within.res (r17within x.1 x.2.1 x.2.2)) (fun x=>r17within.news (r17within x.1 x.2.1 x.2.2))
theorem r17within.ok:CtOk (mkCx Tryz.prog S [] 0) 79 r17within.ct:=ct_mk (C:=(mkCxI Tryz.prog S tab_r9Find 0 false sum_fIdx)) (mkCxI_ok sigOk mixed tab_r9Find_ok 0 false sum_fIdx_ok) r17within.dec_ok (fun x=>rfl) 4 (fun x _=>(r17within.nf_ok x.1 x.2.1 x.2.2 _).mpr (r17within.key x.1 x.2.1 x.2.2 _ rfl))
def tab_r17within:List (FuncId×Ct El):= (79,r17within.ct):: tab_r9Find
theorem tab_r17within_ok:TabOk Tryz.prog S tab_r17within:=⟨r17within.ok,by kernel_rfl,tab_r9Find_ok⟩
def aScan.res (r:Bool): AV El:=.v (.bool (r))
def aScan.news (r:Bool): List (AObj El):= []
def aScan.L (e v:Bool): Prop:=aScan.res e=aScan.res v∧aScan.news e=aScan.news v
def aScan (kind:Int): Bool:=bif kind==(0:Int) then true else kind==(6:Int)
def aScan.dec (cs:List (AV El)): Option (Int):= popI .i64 cs fun a0 c0=>popE c0 a0
def aScan.enc (x:Int): List (AV El):= [.v (.int .i64 x)]
theorem aScan.dec_ok : ∀cs x,aScan.dec cs=some x→Imp (S:=S) cs (aScan.enc x):= by
 intro cs x h
 unfold aScan.dec at h
 obtain ⟨a0,c0,rfl,h0⟩:= popI_some (S:=S) h
 obtain ⟨rfl,rfl⟩:= popE_some (S:=S) h0
 exact (.cons (.refl _))
def aScan.nf (kind:Int) (v:Bool): Prop:=Ob (o3 (!kind==(0:Int)))∧(Ob (on (kind==(0:Int)))∧(aScan.L (bif kind==(0:Int) then true else kind==(6:Int)) v))
theorem aScan.nf_ok (kind:Int) (v:Bool): evFun (mkCxI Tryz.prog S tab_r9Find 0 false sum_fIdx) 4 30 [.v (.int .i64 kind)] [] (fun r' H'=>Gives r' H' (aScan.res v) (aScan.news v))= aScan.nf kind v:=by kernel_rfl
theorem aScan.key (kind:Int) (v:Bool) (hv:v=aScan kind): aScan.nf kind v:=by
 unfold aScan at hv
 unfold aScan.nf
 refine ⟨⟨o3_ok _⟩, ?_⟩
 refine ⟨⟨on_ok _⟩, ?_⟩
 subst hv;exact ⟨rfl,rfl⟩
def aScan.ct:Ct El:=ctOf aScan.dec (fun _=>[]) (fun x=>aScan.res (aScan x)) (fun x=>aScan.news (aScan x))
theorem aScan.ok:CtOk (mkCx Tryz.prog S [] 0) 30 aScan.ct:=ct_mk (C:=(mkCxI Tryz.prog S tab_r9Find 0 false sum_fIdx)) (mkCxI_ok sigOk mixed tab_r9Find_ok 0 false sum_fIdx_ok) aScan.dec_ok (fun x=>rfl) 4 (fun x _=>(aScan.nf_ok x _).mpr (aScan.key x _ rfl))
def tab_aScan:List (FuncId×Ct El):= (30,aScan.ct):: tab_r17within
theorem tab_aScan_ok:TabOk Tryz.prog S tab_aScan:=⟨aScan.ok,by kernel_rfl,tab_r17within_ok⟩
def r19Scan.res (r:Bool): AV El:=.v (.bool (r))
def r19Scan.news (r:Bool): List (AObj El):= []
def r19Scan.L (e v:Bool): Prop:=r19Scan.res e=r19Scan.res v∧r19Scan.news e=r19Scan.news v
def r19Scan (kind:Int): Bool:=bif kind==(0:Int) then true else kind==(6:Int)
def r19Scan.dec (cs:List (AV El)): Option (Int):= popI .i64 cs fun a0 c0=>popE c0 a0
def r19Scan.enc (x:Int): List (AV El):= [.v (.int .i64 x)]
theorem r19Scan.dec_ok : ∀cs x,r19Scan.dec cs=some x→Imp (S:=S) cs (r19Scan.enc x):= by
 intro cs x h
 unfold r19Scan.dec at h
 obtain ⟨a0,c0,rfl,h0⟩:= popI_some (S:=S) h
 obtain ⟨rfl,rfl⟩:= popE_some (S:=S) h0
 exact (.cons (.refl _))
def r19Scan.nf (kind:Int) (v:Bool): Prop:=Ob (o3 (!kind==(0:Int)))∧(Ob (on (kind==(0:Int)))∧(r19Scan.L (bif kind==(0:Int) then true else kind==(6:Int)) v))
theorem r19Scan.nf_ok (kind:Int) (v:Bool): evFun (mkCxI Tryz.prog S tab_r9Find 0 false sum_fIdx) 4 35 [.v (.int .i64 kind)] [] (fun r' H'=>Gives r' H' (r19Scan.res v) (r19Scan.news v))= r19Scan.nf kind v:=by kernel_rfl
theorem r19Scan.key (kind:Int) (v:Bool) (hv:v=r19Scan kind): r19Scan.nf kind v:=by
 unfold r19Scan at hv
 unfold r19Scan.nf
 refine ⟨⟨o3_ok _⟩, ?_⟩
 refine ⟨⟨on_ok _⟩, ?_⟩
 subst hv;exact ⟨rfl,rfl⟩
def r19Scan.ct:Ct El:=ctOf r19Scan.dec (fun _=>[]) (fun x=>r19Scan.res (r19Scan x)) (fun x=>r19Scan.news (r19Scan x))
theorem r19Scan.ok:CtOk (mkCx Tryz.prog S [] 0) 35 r19Scan.ct:=ct_mk (C:=(mkCxI Tryz.prog S tab_r9Find 0 false sum_fIdx)) (mkCxI_ok sigOk mixed tab_r9Find_ok 0 false sum_fIdx_ok) r19Scan.dec_ok (fun x=>rfl) 4 (fun x _=>(r19Scan.nf_ok x _).mpr (r19Scan.key x _ rfl))
def tab_r19Scan:List (FuncId×Ct El):= (35,r19Scan.ct):: tab_aScan
theorem tab_r19Scan_ok:TabOk Tryz.prog S tab_r19Scan:=⟨r19Scan.ok,by kernel_rfl,tab_aScan_ok⟩
def hasTarget.res (r:Bool): AV El:=.v (.bool (r))
def hasTarget.news (r:Bool): List (AObj El):= []
def hasTarget.L (e v:Bool): Prop:=hasTarget.res e=hasTarget.res v∧hasTarget.news e=hasTarget.news v
def hasTarget (kind:Int): Bool:=bif bif kind==(1:Int) then true else kind==(3:Int) then true else kind==(5:Int)
def hasTarget.dec (cs:List (AV El)): Option (Int):= popI .i64 cs fun a0 c0=>popE c0 a0
def hasTarget.enc (x:Int): List (AV El):= [.v (.int .i64 x)]
theorem hasTarget.dec_ok : ∀cs x,hasTarget.dec cs=some x→Imp (S:=S) cs (hasTarget.enc x):= by
 intro cs x h
 unfold hasTarget.dec at h
 obtain ⟨a0,c0,rfl,h0⟩:= popI_some (S:=S) h
 obtain ⟨rfl,rfl⟩:= popE_some (S:=S) h0
 exact (.cons (.refl _))
def hasTarget.nf (kind:Int) (v:Bool): Prop:=Ob (o3 (!kind==(1:Int)))∧(Ob (on (kind==(1:Int)))∧(Ob (o3 (!bif kind==(1:Int) then true else kind==(3:Int)))∧(Ob (on (bif kind==(1:Int) then true else kind==(3:Int)))∧(hasTarget.L (bif bif kind==(1:Int) then true else kind==(3:Int) then true else kind==(5:Int)) v))))
theorem hasTarget.nf_ok (kind:Int) (v:Bool): evFun (mkCxI Tryz.prog S tab_r9Find 0 false sum_fIdx) 4 63 [.v (.int .i64 kind)] [] (fun r' H'=>Gives r' H' (hasTarget.res v) (hasTarget.news v))= hasTarget.nf kind v:=by kernel_rfl
theorem hasTarget.key (kind:Int) (v:Bool) (hv:v=hasTarget kind): hasTarget.nf kind v:=by
 unfold hasTarget at hv
 unfold hasTarget.nf
 refine ⟨⟨o3_ok _⟩, ?_⟩
 refine ⟨⟨on_ok _⟩, ?_⟩
 refine ⟨⟨o3_ok _⟩, ?_⟩
 refine ⟨⟨on_ok _⟩, ?_⟩
 subst hv;exact ⟨rfl,rfl⟩
def hasTarget.ct:Ct El:=ctOf hasTarget.dec (fun _=>[]) (fun x=>hasTarget.res (hasTarget x)) (fun x=>hasTarget.news (hasTarget x))
theorem hasTarget.ok:CtOk (mkCx Tryz.prog S [] 0) 63 hasTarget.ct:=ct_mk (C:=(mkCxI Tryz.prog S tab_r9Find 0 false sum_fIdx)) (mkCxI_ok sigOk mixed tab_r9Find_ok 0 false sum_fIdx_ok) hasTarget.dec_ok (fun x=>rfl) 4 (fun x _=>(hasTarget.nf_ok x _).mpr (hasTarget.key x _ rfl))
def tab_hasTarget:List (FuncId×Ct El):= (63,hasTarget.ct):: tab_r19Scan
theorem tab_hasTarget_ok:TabOk Tryz.prog S tab_hasTarget:=⟨hasTarget.ok,by kernel_rfl,tab_r19Scan_ok⟩
def hasData.res (r:Bool): AV El:=.v (.bool (r))
def hasData.news (r:Bool): List (AObj El):= []
def hasData.L (e v:Bool): Prop:=hasData.res e=hasData.res v∧hasData.news e=hasData.news v
def hasData (kind:Int): Bool:=bif bif bif kind==(0:Int) then true else kind==(2:Int) then true else kind==(4:Int) then true else kind==(6:Int)
def hasData.dec (cs:List (AV El)): Option (Int):= popI .i64 cs fun a0 c0=>popE c0 a0
def hasData.enc (x:Int): List (AV El):= [.v (.int .i64 x)]
theorem hasData.dec_ok : ∀cs x,hasData.dec cs=some x→Imp (S:=S) cs (hasData.enc x):= by
 intro cs x h
 unfold hasData.dec at h
 obtain ⟨a0,c0,rfl,h0⟩:= popI_some (S:=S) h
 obtain ⟨rfl,rfl⟩:= popE_some (S:=S) h0
 exact (.cons (.refl _))
def hasData.nf (kind:Int) (v:Bool): Prop:=Ob (o3 (!kind==(0:Int)))∧(Ob (on (kind==(0:Int)))∧(Ob (o3 (!bif kind==(0:Int) then true else kind==(2:Int)))∧(Ob (on (bif kind==(0:Int) then true else kind==(2:Int)))∧(Ob (o3 (!bif bif kind==(0:Int) then true else kind==(2:Int) then true else kind==(4:Int)))∧(Ob (on (bif bif kind==(0:Int) then true else kind==(2:Int) then true else kind==(4:Int)))∧(hasData.L (bif bif bif kind==(0:Int) then true else kind==(2:Int) then true else kind==(4:Int) then true else kind==(6:Int)) v))))))
theorem hasData.nf_ok (kind:Int) (v:Bool): evFun (mkCxI Tryz.prog S tab_r9Find 0 false sum_fIdx) 4 64 [.v (.int .i64 kind)] [] (fun r' H'=>Gives r' H' (hasData.res v) (hasData.news v))= hasData.nf kind v:=by kernel_rfl
theorem hasData.key (kind:Int) (v:Bool) (hv:v=hasData kind): hasData.nf kind v:=by
 unfold hasData at hv
 unfold hasData.nf
 refine ⟨⟨o3_ok _⟩, ?_⟩
 refine ⟨⟨on_ok _⟩, ?_⟩
 refine ⟨⟨o3_ok _⟩, ?_⟩
 refine ⟨⟨on_ok _⟩, ?_⟩
 refine ⟨⟨o3_ok _⟩, ?_⟩
 refine ⟨⟨on_ok _⟩, ?_⟩
 subst hv;exact ⟨rfl,rfl⟩
def hasData.ct:Ct El:=ctOf hasData.dec (fun _=>[]) (fun x=>hasData.res (hasData x)) (fun x=>hasData.news (hasData x))
theorem hasData.ok:CtOk (mkCx Tryz.prog S [] 0) 64 hasData.ct:=ct_mk (C:=(mkCxI Tryz.prog S tab_r9Find 0 false sum_fIdx)) (mkCxI_ok sigOk mixed tab_r9Find_ok 0 false sum_fIdx_ok) hasData.dec_ok (fun x=>rfl) 4 (fun x _=>(hasData.nf_ok x _).mpr (hasData.key x _ rfl))
def tab_hasData:List (FuncId×Ct El):= (64,hasData.ct):: tab_hasTarget
theorem tab_hasData_ok:TabOk Tryz.prog S tab_hasData:=⟨hasData.ok,by kernel_rfl,tab_hasTarget_ok⟩
def aForm.res (r:AdvpduForm): AV El:=AdvpduForm.av (r)
def aForm.news (r:AdvpduForm): List (AObj El):= []
def aForm.L (e v:AdvpduForm): Prop:=aForm.res e=aForm.res v∧aForm.news e=aForm.news v
def aForm (kind:Int): AdvpduForm:=cond (kind==(5:Int)) ((⟨(true),(true),(false),(true)⟩: AdvpduForm)) (cond (kind==(1:Int)) ((⟨(true),(true),(false),(false)⟩: AdvpduForm)) (cond (kind==(3:Int)) ((⟨(true),(true),(false),(false)⟩: AdvpduForm)) (cond (kind==(0:Int)) ((⟨(true),(false),(true),(false)⟩: AdvpduForm)) (cond (kind==(2:Int)) ((⟨(true),(false),(true),(false)⟩: AdvpduForm)) (cond (kind==(4:Int)) ((⟨(true),(false),(true),(false)⟩: AdvpduForm)) (cond (kind==(6:Int)) ((⟨(true),(false),(true),(false)⟩: AdvpduForm)) ((⟨(false),(false),(false),(false)⟩: AdvpduForm))))))))
def aForm.dec (cs:List (AV El)): Option (Int):= popI .i64 cs fun a0 c0=>popE c0 a0
def aForm.enc (x:Int): List (AV El):= [.v (.int .i64 x)]
theorem aForm.dec_ok : ∀cs x,aForm.dec cs=some x→Imp (S:=S) cs (aForm.enc x):= by
 intro cs x h
 unfold aForm.dec at h
 obtain ⟨a0,c0,rfl,h0⟩:= popI_some (S:=S) h
 obtain ⟨rfl,rfl⟩:= popE_some (S:=S) h0
 exact (.cons (.refl _))
def aForm.nf (kind:Int) (v:AdvpduForm): Prop:=cond (kind==(5:Int)) (aForm.L ((⟨(true),(true),(false),(true)⟩: AdvpduForm)) v) (cond (kind==(1:Int)) (aForm.L ((⟨(true),(true),(false),(false)⟩: AdvpduForm)) v) (cond (kind==(3:Int)) (aForm.L ((⟨(true),(true),(false),(false)⟩: AdvpduForm)) v) (cond (kind==(0:Int)) (aForm.L ((⟨(true),(false),(true),(false)⟩: AdvpduForm)) v) (cond (kind==(2:Int)) (aForm.L ((⟨(true),(false),(true),(false)⟩: AdvpduForm)) v) (cond (kind==(4:Int)) (aForm.L ((⟨(true),(false),(true),(false)⟩: AdvpduForm)) v) (cond (kind==(6:Int)) (aForm.L ((⟨(true),(false),(true),(false)⟩: AdvpduForm)) v) (aForm.L ((⟨(false),(false),(false),(false)⟩: AdvpduForm)) v)))))))
theorem aForm.nf_ok (kind:Int) (v:AdvpduForm): evFun (mkCxI Tryz.prog S tab_r9Find 0 false sum_fIdx) 4 58 [.v (.int .i64 kind)] [] (fun r' H'=>Gives r' H' (aForm.res v) (aForm.news v))= aForm.nf kind v:=by kernel_rfl
theorem aForm.key (kind:Int) (v:AdvpduForm) (hv:v=aForm kind): aForm.nf kind v:=by
 unfold aForm at hv
 unfold aForm.nf
 revert hv;refine by_cond2 (fun hb hv=>?_) (fun hb hv=>?_)
 ·subst hv;exact ⟨rfl,rfl⟩
 ·revert hv;refine by_cond2 (fun hb hv=>?_) (fun hb hv=>?_)
  ·subst hv;exact ⟨rfl,rfl⟩
  ·revert hv;refine by_cond2 (fun hb hv=>?_) (fun hb hv=>?_)
   ·subst hv;exact ⟨rfl,rfl⟩
   ·revert hv;refine by_cond2 (fun hb hv=>?_) (fun hb hv=>?_)
    ·subst hv;exact ⟨rfl,rfl⟩
    ·revert hv;refine by_cond2 (fun hb hv=>?_) (fun hb hv=>?_)
     ·subst hv;exact ⟨rfl,rfl⟩
     ·revert hv;refine by_cond2 (fun hb hv=>?_) (fun hb hv=>?_)
      ·subst hv;exact ⟨rfl,rfl⟩
      ·revert hv;refine by_cond2 (fun hb hv=>?_) (fun hb hv=>?_)
       ·subst hv;exact ⟨rfl,rfl⟩
       ·subst hv;exact ⟨rfl,rfl⟩
def aForm.ct:Ct El:=ctOf aForm.dec (fun _=>[]) (fun x=>aForm.res (aForm x)) (fun x=>aForm.news (aForm x))
theorem aForm.ok:CtOk (mkCx Tryz.prog S [] 0) 58 aForm.ct:=ct_mk (C:=(mkCxI Tryz.prog S tab_r9Find 0 false sum_fIdx)) (mkCxI_ok sigOk mixed tab_r9Find_ok 0 false sum_fIdx_ok) aForm.dec_ok (fun x=>rfl) 4 (fun x _=>(aForm.nf_ok x _).mpr (aForm.key x _ rfl))
def tab_aForm:List (FuncId×Ct El):= (58,aForm.ct):: tab_hasData
theorem tab_aForm_ok:TabOk Tryz.prog S tab_aForm:=⟨aForm.ok,by kernel_rfl,tab_hasData_ok⟩
end Go.Aw.W
