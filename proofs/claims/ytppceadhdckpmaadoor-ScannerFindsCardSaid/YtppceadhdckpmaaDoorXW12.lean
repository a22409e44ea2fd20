/- Contracts of the seat (printed by ct.py). -/
import Derived.Test.YtppceadhdckpmaaDoorXW11
set_option linter.unusedVariables false
set_option linter.unusedSimpArgs false
set_option maxRecDepth 20000
set_option maxHeartbeats 1000000
namespace Go.Aw.W
open Go Go.Aw Go.Proofs
attribute [local irreducible] evCode evFun evOps evDs evOne ctxK loopK loopB subC bodyC headS okH roundK
def r17within.res (r:Bool): AV El:=.v (.bool (r))
def r17within.news (r:Bool): List (AObj El):= []
def r17within.L (e v:Bool): Prop:=r17within.res e=r17within.res v∧r17within.news e=r17within.news v
def r17within (n:Int) (low:Int) (high:Int): Bool:=bif decide (low≤n) then decide (n≤high) else false
def r17within.dec (cs:List (AV El)): Option (Int×Int×Int):= popI .i64 cs fun a0 c0=>popI .i64 c0 fun a1 c1=>popI .i64 c1 fun a2 c2=>popE c2 (a0,a1,a2)
def r17within.enc (x:Int×Int×Int): List (AV El):= [.v (.int .i64 x.1), .v (.int .i64 x.2.1), .v (.int .i64 x.2.2)]
theorem r17within.dec_ok : ∀cs x,r17within.dec cs=some x→Imp (S:=S) cs (r17within.enc x):= by
 intro cs x h
 unfold r17within.dec at h
 obtain ⟨a0,c0,rfl,h0⟩:= popI_some (S:=S) h
 obtain ⟨a1,c1,rfl,h1⟩:= popI_some (S:=S) h0
 obtain ⟨a2,c2,rfl,h2⟩:= popI_some (S:=S) h1
 obtain ⟨rfl,rfl⟩:= popE_some (S:=S) h2
 exact (.cons (.cons (.cons (.refl _))))
def r17within.nf (n:Int) (low:Int) (high:Int) (v:Bool): Prop:=Ob (o3 (decide (low≤n)))∧(Ob (o3 (decide (low≤n)))∧(Ob (o2 (decide (low≤n)))∧(r17within.L (bif decide (low≤n) then decide (n≤high) else false) v)))
theorem r17within.nf_ok (n:Int) (low:Int) (high:Int) (v:Bool): evFun (mkCxI Tryd.prog S tab_r9Find 0 false sum_fIdx) 4 111 [.v (.int .i64 n), .v (.int .i64 low), .v (.int .i64 high)] [] (fun r' H'=>Gives r' H' (r17within.res v) (r17within.news v))= r17within.nf n low high v:=by kernel_rfl
theorem r17within.key (n:Int) (low:Int) (high:Int) (v:Bool) (hv:v=r17within n low high): r17within.nf n low high v:=by
 unfold r17within at hv
 unfold r17within.nf
 iterate 2 refine ⟨⟨o3_ok _⟩, ?_⟩
 refine ⟨⟨o2_ok _⟩, ?_⟩
 subst hv;exact ⟨rfl,rfl⟩
def r17within.ct:Ct El:=ctOf r17within.dec (fun _=>[]) (fun x=>r17within.res (r17within x.1 x.2.1 x.2.2)) (fun x=>r17within.news (r17within x.1 x.2.1 x.2.2))
theorem r17within.ok:CtOk (mkCx Tryd.prog S [] 0) 111 r17within.ct:=ct_mk (C:=(mkCxI Tryd.prog S tab_r9Find 0 false sum_fIdx)) (mkCxI_ok sigOk mixed tab_r9Find_ok 0 false sum_fIdx_ok) r17within.dec_ok (fun x=>rfl) 4 (fun x _=>(r17within.nf_ok x.1 x.2.1 x.2.2 _).mpr (r17within.key x.1 x.2.1 x.2.2 _ rfl))
def tab_r17within:List (FuncId×Ct El):= (111,r17within.ct):: tab_r9Find
theorem tab_r17within_ok:TabOk Tryd.prog S tab_r17within:=⟨r17within.ok,by kernel_rfl,tab_r9Find_ok⟩
def aScan.res (r:Bool): AV El:=.v (.bool (r))
def aScan.news (r:Bool): List (AObj El):= []
def aScan.L (e v:Bool): Prop:=aScan.res e=aScan.res v∧aScan.news e=aScan.news v
def aScan (kind:Int): Bool:=bif kind==(0:Int) then true else kind==(6:Int)
def aScan.dec (cs:List (AV El)): Option (Int):= popI .i64 cs fun a0 c0=>popE c0 a0
def aScan.enc (x:Int): List (AV El):= [.v (.int .i64 x)]
theorem aScan.dec_ok : ∀cs x,aScan.dec cs=some x→Imp (S:=S) cs (aScan.enc x):= by
 intro cs x h
 unfold aScan.dec at h
 obtain ⟨a0,c0,rfl,h0⟩:= popI_some (S:=S) h
 obtain ⟨rfl,rfl⟩:= popE_some (S:=S) h0
 exact (.cons (.refl _))
def aScan.nf (kind:Int) (v:Bool): Prop:=Ob (o3 (!kind==(0:Int)))∧(Ob (on (kind==(0:Int)))∧(aScan.L (bif kind==(0:Int) then true else kind==(6:Int)) v))
theorem aScan.nf_ok (kind:Int) (v:Bool): evFun (mkCxI Tryd.prog S tab_r9Find 0 false sum_fIdx) 4 62 [.v (.int .i64 kind)] [] (fun r' H'=>Gives r' H' (aScan.res v) (aScan.news v))= aScan.nf kind v:=by kernel_rfl
theorem aScan.key (kind:Int) (v:Bool) (hv:v=aScan kind): aScan.nf kind v:=by
 unfold aScan at hv
 unfold aScan.nf
 refine ⟨⟨o3_ok _⟩, ?_⟩
 refine ⟨⟨on_ok _⟩, ?_⟩
 subst hv;exact ⟨rfl,rfl⟩
def aScan.ct:Ct El:=ctOf aScan.dec (fun _=>[]) (fun x=>aScan.res (aScan x)) (fun x=>aScan.news (aScan x))
theorem aScan.ok:CtOk (mkCx Tryd.prog S [] 0) 62 aScan.ct:=ct_mk (C:=(mkCxI Tryd.prog S tab_r9Find 0 false sum_fIdx)) (mkCxI_ok sigOk mixed tab_r9Find_ok 0 false sum_fIdx_ok) aScan.dec_ok (fun x=>rfl) 4 (fun x _=>(aScan.nf_ok x _).mpr (aScan.key x _ rfl))
def tab_aScan:List (FuncId×Ct El):= (62,aScan.ct):: tab_r17within
theorem tab_aScan_ok:TabOk Tryd.prog S tab_aScan:=⟨aScan.ok,by kernel_rfl,tab_r17within_ok⟩
def r19Scan.res (r:Bool): AV El:=.v (.bool (r))
def r19Scan.news (r:Bool): List (AObj El):= []
def r19Scan.L (e v:Bool): Prop:=r19Scan.res e=r19Scan.res v∧r19Scan.news e=r19Scan.news v
def r19Scan (kind:Int): Bool:=bif kind==(0:Int) then true else kind==(6:Int)
def r19Scan.dec (cs:List (AV El)): Option (Int):= popI .i64 cs fun a0 c0=>popE c0 a0
def r19Scan.enc (x:Int): List (AV El):= [.v (.int .i64 x)]
theorem r19Scan.dec_ok : ∀cs x,r19Scan.dec cs=some x→Imp (S:=S) cs (r19Scan.enc x):= by
 intro cs x h
 unfold r19Scan.dec at h
 obtain ⟨a0,c0,rfl,h0⟩:= popI_some (S:=S) h
 obtain ⟨rfl,rfl⟩:= popE_some (S:=S) h0
 exact (.cons (.refl _))
def r19Scan.nf (kind:Int) (v:Bool): Prop:=Ob (o3 (!kind==(0:Int)))∧(Ob (on (kind==(0:Int)))∧(r19Scan.L (bif kind==(0:Int) then true else kind==(6:Int)) v))
theorem r19Scan.nf_ok (kind:Int) (v:Bool): evFun (mkCxI Tryd.prog S tab_r9Find 0 false sum_fIdx) 4 33 [.v (.int .i64 kind)] [] (fun r' H'=>Gives r' H' (r19Scan.res v) (r19Scan.news v))= r19Scan.nf kind v:=by kernel_rfl
theorem r19Scan.key (kind:Int) (v:Bool) (hv:v=r19Scan kind): r19Scan.nf kind v:=by
 unfold r19Scan at hv
 unfold r19Scan.nf
 refine ⟨⟨o3_ok _⟩, ?_⟩
 refine ⟨⟨on_ok _⟩, ?_⟩
 subst hv;exact ⟨rfl,rfl⟩
def r19Scan.ct:Ct El:=ctOf r19Scan.dec (fun _=>[]) (fun x=>r19Scan.res (r19Scan x)) (fun x=>r19Scan.news (r19Scan x))
theorem r19Scan.ok:CtOk (mkCx Tryd.prog S [] 0) 33 r19Scan.ct:=ct_mk (C:=(mkCxI Tryd.prog S tab_r9Find 0 false sum_fIdx)) (mkCxI_ok sigOk mixed tab_r9Find_ok 0 false sum_fIdx_ok) r19Scan.dec_ok (fun x=>rfl) 4 (fun x _=>(r19Scan.nf_ok x _).mpr (r19Scan.key x _ rfl))
def tab_r19Scan:List (FuncId×Ct El):= (33,r19Scan.ct):: tab_aScan
theorem tab_r19Scan_ok:TabOk Tryd.prog S tab_r19Scan:=⟨r19Scan.ok,by kernel_rfl,tab_aScan_ok⟩
def aConn.res (r:Bool): AV El:=.v (.bool (r))
def aConn.news (r:Bool): List (AObj El):= []
def aConn.L (e v:Bool): Prop:=aConn.res e=aConn.res v∧aConn.news e=aConn.news v
def aConn (kind:Int): Bool:=bif kind==(0:Int) then true else kind==(1:Int)
def aConn.dec (cs:List (AV El)): Option (Int):= popI .i64 cs fun a0 c0=>popE c0 a0
def aConn.enc (x:Int): List (AV El):= [.v (.int .i64 x)]
theorem aConn.dec_ok : ∀cs x,aConn.dec cs=some x→Imp (S:=S) cs (aConn.enc x):= by
 intro cs x h
 unfold aConn.dec at h
 obtain ⟨a0,c0,rfl,h0⟩:= popI_some (S:=S) h
 obtain ⟨rfl,rfl⟩:= popE_some (S:=S) h0
 exact (.cons (.refl _))
def aConn.nf (kind:Int) (v:Bool): Prop:=Ob (o3 (!kind==(0:Int)))∧(Ob (on (kind==(0:Int)))∧(aConn.L (bif kind==(0:Int) then true else kind==(1:Int)) v))
theorem aConn.nf_ok (kind:Int) (v:Bool): evFun (mkCxI Tryd.prog S tab_r9Find 0 false sum_fIdx) 4 80 [.v (.int .i64 kind)] [] (fun r' H'=>Gives r' H' (aConn.res v) (aConn.news v))= aConn.nf kind v:=by kernel_rfl
theorem aConn.key (kind:Int) (v:Bool) (hv:v=aConn kind): aConn.nf kind v:=by
 unfold aConn at hv
 unfold aConn.nf
 refine ⟨⟨o3_ok _⟩, ?_⟩
 refine ⟨⟨on_ok _⟩, ?_⟩
 subst hv;exact ⟨rfl,rfl⟩
def aConn.ct:Ct El:=ctOf aConn.dec (fun _=>[]) (fun x=>aConn.res (aConn x)) (fun x=>aConn.news (aConn x))
theorem aConn.ok:CtOk (mkCx Tryd.prog S [] 0) 80 aConn.ct:=ct_mk (C:=(mkCxI Tryd.prog S tab_r9Find 0 false sum_fIdx)) (mkCxI_ok sigOk mixed tab_r9Find_ok 0 false sum_fIdx_ok) aConn.dec_ok (fun x=>rfl) 4 (fun x _=>(aConn.nf_ok x _).mpr (aConn.key x _ rfl))
def tab_aConn:List (FuncId×Ct El):= (80,aConn.ct):: tab_r19Scan
theorem tab_aConn_ok:TabOk Tryd.prog S tab_aConn:=⟨aConn.ok,by kernel_rfl,tab_r19Scan_ok⟩
def r19Conn.res (r:Bool): AV El:=.v (.bool (r))
def r19Conn.news (r:Bool): List (AObj El):= []
def r19Conn.L (e v:Bool): Prop:=r19Conn.res e=r19Conn.res v∧r19Conn.news e=r19Conn.news v
def r19Conn (kind:Int): Bool:=bif kind==(0:Int) then true else kind==(1:Int)
def r19Conn.dec (cs:List (AV El)): Option (Int):= popI .i64 cs fun a0 c0=>popE c0 a0
def r19Conn.enc (x:Int): List (AV El):= [.v (.int .i64 x)]
theorem r19Conn.dec_ok : ∀cs x,r19Conn.dec cs=some x→Imp (S:=S) cs (r19Conn.enc x):= by
 intro cs x h
 unfold r19Conn.dec at h
 obtain ⟨a0,c0,rfl,h0⟩:= popI_some (S:=S) h
 obtain ⟨rfl,rfl⟩:= popE_some (S:=S) h0
 exact (.cons (.refl _))
def r19Conn.nf (kind:Int) (v:Bool): Prop:=Ob (o3 (!kind==(0:Int)))∧(Ob (on (kind==(0:Int)))∧(r19Conn.L (bif kind==(0:Int) then true else kind==(1:Int)) v))
theorem r19Conn.nf_ok (kind:Int) (v:Bool): evFun (mkCxI Tryd.prog S tab_r9Find 0 false sum_fIdx) 4 32 [.v (.int .i64 kind)] [] (fun r' H'=>Gives r' H' (r19Conn.res v) (r19Conn.news v))= r19Conn.nf kind v:=by kernel_rfl
theorem r19Conn.key (kind:Int) (v:Bool) (hv:v=r19Conn kind): r19Conn.nf kind v:=by
 unfold r19Conn at hv
 unfold r19Conn.nf
 refine ⟨⟨o3_ok _⟩, ?_⟩
 refine ⟨⟨on_ok _⟩, ?_⟩
 subst hv;exact ⟨rfl,rfl⟩
def r19Conn.ct:Ct El:=ctOf r19Conn.dec (fun _=>[]) (fun x=>r19Conn.res (r19Conn x)) (fun x=>r19Conn.news (r19Conn x))
theorem r19Conn.ok:CtOk (mkCx Tryd.prog S [] 0) 32 r19Conn.ct:=ct_mk (C:=(mkCxI Tryd.prog S tab_r9Find 0 false sum_fIdx)) (mkCxI_ok sigOk mixed tab_r9Find_ok 0 false sum_fIdx_ok) r19Conn.dec_ok (fun x=>rfl) 4 (fun x _=>(r19Conn.nf_ok x _).mpr (r19Conn.key x _ rfl))
def tab_r19Conn:List (FuncId×Ct El):= (32,r19Conn.ct):: tab_aConn
theorem tab_r19Conn_ok:TabOk Tryd.prog S tab_r19Conn:=⟨r19Conn.ok,by kernel_rfl,tab_aConn_ok⟩
def hasTarget.res (r:Bool): AV El:=.v (.bool (r))
def hasTarget.news (r:Bool): List (AObj El):= []
def hasTarget.L (e v:Bool): Prop:=hasTarget.res e=hasTarget.res v∧hasTarget.news e=hasTarget.news v
def hasTarget (kind:Int): Bool:=bif bif kind==(1:Int) then true else kind==(3:Int) then true else kind==(5:Int)
def hasTarget.dec (cs:List (AV El)): Option (Int):= popI .i64 cs fun a0 c0=>popE c0 a0
def hasTarget.enc (x:Int): List (AV El):= [.v (.int .i64 x)]
theorem hasTarget.dec_ok : ∀cs x,hasTarget.dec cs=some x→Imp (S:=S) cs (hasTarget.enc x):= by
 intro cs x h
 unfold hasTarget.dec at h
 obtain ⟨a0,c0,rfl,h0⟩:= popI_some (S:=S) h
 obtain ⟨rfl,rfl⟩:= popE_some (S:=S) h0
 exact (.cons (.refl _))
def hasTarget.nf (kind:Int) (v:Bool): Prop:=Ob (o3 (!kind==1))∧(Ob (on (kind==1))∧(Ob (o3 (!bif kind==1 then true else kind==3))∧(Ob (on (bif kind==1 then true else kind==3))∧(hasTarget.L (bif bif kind==1 then true else kind==3 then true else kind==5) v))))
theorem hasTarget.nf_ok (kind:Int) (v:Bool): evFun (mkCxI Tryd.prog S tab_r9Find 0 false sum_fIdx) 4 86 [.v (.int .i64 kind)] [] (fun r' H'=>Gives r' H' (hasTarget.res v) (hasTarget.news v))= hasTarget.nf kind v:=by kernel_rfl
theorem hasTarget.key (kind:Int) (v:Bool) (hv:v=hasTarget kind): hasTarget.nf kind v:=by
 unfold hasTarget at hv
 unfold hasTarget.nf
 refine ⟨⟨o3_ok _⟩, ?_⟩
 refine ⟨⟨on_ok _⟩, ?_⟩
 refine ⟨⟨o3_ok _⟩, ?_⟩
 refine ⟨⟨on_ok _⟩, ?_⟩
 subst hv;exact ⟨rfl,rfl⟩
def hasTarget.ct:Ct El:=ctOf hasTarget.dec (fun _=>[]) (fun x=>hasTarget.res (hasTarget x)) (fun x=>hasTarget.news (hasTarget x))
theorem hasTarget.ok:CtOk (mkCx Tryd.prog S [] 0) 86 hasTarget.ct:=ct_mk (C:=(mkCxI Tryd.prog S tab_r9Find 0 false sum_fIdx)) (mkCxI_ok sigOk mixed tab_r9Find_ok 0 false sum_fIdx_ok) hasTarget.dec_ok (fun x=>rfl) 4 (fun x _=>(hasTarget.nf_ok x _).mpr (hasTarget.key x _ rfl))
def tab_hasTarget:List (FuncId×Ct El):= (86,hasTarget.ct):: tab_r19Conn
theorem tab_hasTarget_ok:TabOk Tryd.prog S tab_hasTarget:=⟨hasTarget.ok,by kernel_rfl,tab_r19Conn_ok⟩
def hasData.res (r:Bool): AV El:=.v (.bool (r))
def hasData.news (r:Bool): List (AObj El):= []
def hasData.L (e v:Bool): Prop:=hasData.res e=hasData.res v∧hasData.news e=hasData.news v
def hasData (kind:Int): Bool:=bif bif bif kind==(0:Int) then true else kind==(2:Int) then true else kind==(4:Int) then true else kind==(6:Int)
def hasData.dec (cs:List (AV El)): Option (Int):= popI .i64 cs fun a0 c0=>popE c0 a0
def hasData.enc (x:Int): List (AV El):= [.v (.int .i64 x)]
theorem hasData.dec_ok : ∀cs x,hasData.dec cs=some x→Imp (S:=S) cs (hasData.enc x):= by
 intro cs x h
 unfold hasData.dec at h
 obtain ⟨a0,c0,rfl,h0⟩:= popI_some (S:=S) h
 obtain ⟨rfl,rfl⟩:= popE_some (S:=S) h0
 exact (.cons (.refl _))
def hasData.nf (kind:Int) (v:Bool): Prop:=Ob (o3 (!kind==0))∧(Ob (on (kind==0))∧(Ob (o3 (!bif kind==0 then true else kind==2))∧(Ob (on (bif kind==0 then true else kind==2))∧(Ob (o3 (!bif bif kind==0 then true else kind==2 then true else kind==4))∧(Ob (on (bif bif kind==0 then true else kind==2 then true else kind==4))∧(hasData.L (bif bif bif kind==0 then true else kind==2 then true else kind==4 then true else kind==6) v))))))
theorem hasData.nf_ok (kind:Int) (v:Bool): evFun (mkCxI Tryd.prog S tab_r9Find 0 false sum_fIdx) 4 87 [.v (.int .i64 kind)] [] (fun r' H'=>Gives r' H' (hasData.res v) (hasData.news v))= hasData.nf kind v:=by kernel_rfl
theorem hasData.key (kind:Int) (v:Bool) (hv:v=hasData kind): hasData.nf kind v:=by
 unfold hasData at hv
 unfold hasData.nf
 refine ⟨⟨o3_ok _⟩, ?_⟩
 refine ⟨⟨on_ok _⟩, ?_⟩
 refine ⟨⟨o3_ok _⟩, ?_⟩
 refine ⟨⟨on_ok _⟩, ?_⟩
 refine ⟨⟨o3_ok _⟩, ?_⟩
 refine ⟨⟨on_ok _⟩, ?_⟩
 subst hv;exact ⟨rfl,rfl⟩
def hasData.ct:Ct El:=ctOf hasData.dec (fun _=>[]) (fun x=>hasData.res (hasData x)) (fun x=>hasData.news (hasData x))
theorem hasData.ok:CtOk (mkCx Tryd.prog S [] 0) 87 hasData.ct:=ct_mk (C:=(mkCxI Tryd.prog S tab_r9Find 0 false sum_fIdx)) (mkCxI_ok sigOk mixed tab_r9Find_ok 0 false sum_fIdx_ok) hasData.dec_ok (fun x=>rfl) 4 (fun x _=>(hasData.nf_ok x _).mpr (hasData.key x _ rfl))
def tab_hasData:List (FuncId×Ct El):= (87,hasData.ct):: tab_hasTarget
theorem tab_hasData_ok:TabOk Tryd.prog S tab_hasData:=⟨hasData.ok,by kernel_rfl,tab_hasTarget_ok⟩
def aForm.res (r:AdvpduForm): AV El:=AdvpduForm.av (r)
def aForm.news (r:AdvpduForm): List (AObj El):= []
def aForm.L (e v:AdvpduForm): Prop:=aForm.res e=aForm.res v∧aForm.news e=aForm.news v
def aForm (kind:Int): AdvpduForm:=cond (kind==5) ((⟨(true),(true),(false),(true)⟩: AdvpduForm)) (cond (kind==1) ((⟨(true),(true),(false),(false)⟩: AdvpduForm)) (cond (kind==3) ((⟨(true),(true),(false),(false)⟩: AdvpduForm)) (cond (kind==0) ((⟨(true),(false),(true),(false)⟩: AdvpduForm)) (cond (kind==2) ((⟨(true),(false),(true),(false)⟩: AdvpduForm)) (cond (kind==4) ((⟨(true),(false),(true),(false)⟩: AdvpduForm)) (cond (kind==6) ((⟨(true),(false),(true),(false)⟩: AdvpduForm)) ((⟨(false),(false),(false),(false)⟩: AdvpduForm))))))))
def aForm.dec (cs:List (AV El)): Option (Int):= popI .i64 cs fun a0 c0=>popE c0 a0
def aForm.enc (x:Int): List (AV El):= [.v (.int .i64 x)]
theorem aForm.dec_ok : ∀cs x,aForm.dec cs=some x→Imp (S:=S) cs (aForm.enc x):= by
 intro cs x h
 unfold aForm.dec at h
 obtain ⟨a0,c0,rfl,h0⟩:= popI_some (S:=S) h
 obtain ⟨rfl,rfl⟩:= popE_some (S:=S) h0
 exact (.cons (.refl _))
def aForm.nf (kind:Int) (v:AdvpduForm): Prop:=cond (kind==5) (aForm.L ((⟨(true),(true),(false),(true)⟩: AdvpduForm)) v) (cond (kind==1) (aForm.L ((⟨(true),(true),(false),(false)⟩: AdvpduForm)) v) (cond (kind==3) (aForm.L ((⟨(true),(true),(false),(false)⟩: AdvpduForm)) v) (cond (kind==0) (aForm.L ((⟨(true),(false),(true),(false)⟩: AdvpduForm)) v) (cond (kind==2) (aForm.L ((⟨(true),(false),(true),(false)⟩: AdvpduForm)) v) (cond (kind==4) (aForm.L ((⟨(true),(false),(true),(false)⟩: AdvpduForm)) v) (cond (kind==6) (aForm.L ((⟨(true),(false),(true),(false)⟩: AdvpduForm)) v) (aForm.L ((⟨(false),(false),(false),(false)⟩: AdvpduForm)) v)))))))
theorem aForm.nf_ok (kind:Int) (v:AdvpduForm): evFun (mkCxI Tryd.prog S tab_r9Find 0 false sum_fIdx) 4 94 [.v (.int .i64 kind)] [] (fun r' H'=>Gives r' H' (aForm.res v) (aForm.news v))= aForm.nf kind v:=by kernel_rfl
theorem aForm.key (kind:Int) (v:AdvpduForm) (hv:v=aForm kind): aForm.nf kind v:=by
 unfold aForm at hv
 unfold aForm.nf
 revert hv;refine by_cond2 (fun hb hv=>?_) (fun hb hv=>?_)
 ·subst hv;exact ⟨rfl,rfl⟩
 ·revert hv;refine by_cond2 (fun hb hv=>?_) (fun hb hv=>?_)
  ·subst hv;exact ⟨rfl,rfl⟩
  ·revert hv;refine by_cond2 (fun hb hv=>?_) (fun hb hv=>?_)
   ·subst hv;exact ⟨rfl,rfl⟩
   ·revert hv;refine by_cond2 (fun hb hv=>?_) (fun hb hv=>?_)
    ·subst hv;exact ⟨rfl,rfl⟩
    ·revert hv;refine by_cond2 (fun hb hv=>?_) (fun hb hv=>?_)
     ·subst hv;exact ⟨rfl,rfl⟩
     ·revert hv;refine by_cond2 (fun hb hv=>?_) (fun hb hv=>?_)
      ·subst hv;exact ⟨rfl,rfl⟩
      ·revert hv;refine by_cond2 (fun hb hv=>?_) (fun hb hv=>?_)
       ·subst hv;exact ⟨rfl,rfl⟩
       ·subst hv;exact ⟨rfl,rfl⟩
def aForm.ct:Ct El:=ctOf aForm.dec (fun _=>[]) (fun x=>aForm.res (aForm x)) (fun x=>aForm.news (aForm x))
theorem aForm.ok:CtOk (mkCx Tryd.prog S [] 0) 94 aForm.ct:=ct_mk (C:=(mkCxI Tryd.prog S tab_r9Find 0 false sum_fIdx)) (mkCxI_ok sigOk mixed tab_r9Find_ok 0 false sum_fIdx_ok) aForm.dec_ok (fun x=>rfl) 4 (fun x _=>(aForm.nf_ok x _).mpr (aForm.key x _ rfl))
def tab_aForm:List (FuncId×Ct El):= (94,aForm.ct):: tab_hasData
theorem tab_aForm_ok:TabOk Tryd.prog S tab_aForm:=⟨aForm.ok,by kernel_rfl,tab_hasData_ok⟩
end Go.Aw.W
