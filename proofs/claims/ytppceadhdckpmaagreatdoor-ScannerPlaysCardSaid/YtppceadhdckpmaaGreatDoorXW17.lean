/- Contracts of the seat (printed by ct.py). -/
import Derived.Test.YtppceadhdckpmaaGreatDoorXW16
set_option linter.unusedVariables false
set_option linter.unusedSimpArgs false
set_option maxRecDepth 20000
set_option maxHeartbeats 1000000
namespace Go.Aw.W
open Go Go.Aw Go.Proofs
attribute [local irreducible] evCode evFun evOps evDs evOne ctxK loopK loopB subC bodyC headS okH roundK
def pCheck.res (r:Int): AV El:=.v (.int .i64 (r))
def pCheck.news (r:Int): List (AObj El):= []
def pCheck.L (e v:Int): Prop:=pCheck.res e=pCheck.res v∧pCheck.news e=pCheck.news v
def pCheck (p:AdvPDU): Int:=cond (!(aForm p.Kind).known) ((12:Int)) (cond (aCheck p.Sender != (0:Int)) (aCheck p.Sender) (cond ((aForm p.Kind).target) (cond (aCheck p.Target != (0:Int)) (aCheck p.Target) (cond (bif (aForm p.Kind).data then decide ((31:Int) < (↑(List.length p.Data): Int)) else false) ((4:Int)) (cond (bif !(aForm p.Kind).data then decide ((0:Int) < (↑(List.length p.Data): Int)) else false) ((1:Int)) (cond ((aForm p.Kind).conn) (cCheck p.Conn) (cond (!(p.Conn.Access==(0:Int) && (p.Conn.Init==(0:Int) && (p.Conn.Update.WinSize==(0:Int) && (p.Conn.Update.WinOffset==(0:Int) && (p.Conn.Update.Interval==(0:Int) && (p.Conn.Update.Latency==(0:Int) && (p.Conn.Update.Timeout==(0:Int) && (p.Conn.Map==(0:Int) && (p.Conn.Hop==(0:Int) && (p.Conn.PPM==(0:Int) && p.Conn.Algorithm==(0:Int)))))))))))) ((1:Int)) ((0:Int))))))) (cond (!(p.Target.Kind==(0:Int) && p.Target.Bits==(0:Int))) ((1:Int)) (cond (bif (aForm p.Kind).data then decide ((31:Int) < (↑(List.length p.Data): Int)) else false) ((4:Int)) (cond (bif !(aForm p.Kind).data then decide ((0:Int) < (↑(List.length p.Data): Int)) else false) ((1:Int)) (cond ((aForm p.Kind).conn) (cCheck p.Conn) (cond (!(p.Conn.Access==(0:Int) && (p.Conn.Init==(0:Int) && (p.Conn.Update.WinSize==(0:Int) && (p.Conn.Update.WinOffset==(0:Int) && (p.Conn.Update.Interval==(0:Int) && (p.Conn.Update.Latency==(0:Int) && (p.Conn.Update.Timeout==(0:Int) && (p.Conn.Map==(0:Int) && (p.Conn.Hop==(0:Int) && (p.Conn.PPM==(0:Int) && p.Conn.Algorithm==(0:Int)))))))))))) ((1:Int)) ((0:Int)))))))))
def pCheck.dec (cs:List (AV El)): Option (AdvPDU):= popA AdvPDU.dec cs fun a0 c0=>popE c0 a0
def pCheck.enc (x:AdvPDU): List (AV El):= [AdvPDU.av x]
theorem pCheck.dec_ok : ∀cs x,pCheck.dec cs=some x→Imp (S:=S) cs (pCheck.enc x):= by
 intro cs x h
 unfold pCheck.dec at h
 obtain ⟨a0,c0,h0,k0⟩:= popA_some (S:=S) AdvPDU.dec_ok h
 obtain ⟨rfl,rfl⟩:= popE_some (S:=S) h0
 exact (k0 _ (.refl _))
def pCheck.nf (p:AdvPDU) (v:Int): Prop:=cond (!(aForm p.Kind).known) (pCheck.L ((12:Int)) v) (cond (aCheck p.Sender != (0:Int)) (pCheck.L (aCheck p.Sender) v) (cond ((aForm p.Kind).target) (cond (aCheck p.Target != (0:Int)) (pCheck.L (aCheck p.Target) v) (Ob (o3 ((aForm p.Kind).data))∧(Ob (o3 ((aForm p.Kind).data))∧(Ob (o3 ((aForm p.Kind).data))∧(Ob (o2 ((aForm p.Kind).data))∧(cond (bif (aForm p.Kind).data then decide ((31:Int) < (↑(List.length p.Data): Int)) else false) (pCheck.L ((4:Int)) v) (Ob (o3 (!(aForm p.Kind).data))∧(Ob (o3 (!(aForm p.Kind).data))∧(Ob (o3 (!(aForm p.Kind).data))∧(Ob (o2 (!(aForm p.Kind).data))∧(cond (bif !(aForm p.Kind).data then decide ((0:Int) < (↑(List.length p.Data): Int)) else false) (pCheck.L ((1:Int)) v) (cond ((aForm p.Kind).conn) (pCheck.L (cCheck p.Conn) v) (cond (!(p.Conn.Access==(0:Int) && (p.Conn.Init==(0:Int) && (p.Conn.Update.WinSize==(0:Int) && (p.Conn.Update.WinOffset==(0:Int) && (p.Conn.Update.Interval==(0:Int) && (p.Conn.Update.Latency==(0:Int) && (p.Conn.Update.Timeout==(0:Int) && (p.Conn.Map==(0:Int) && (p.Conn.Hop==(0:Int) && (p.Conn.PPM==(0:Int) && p.Conn.Algorithm==(0:Int)))))))))))) (pCheck.L ((1:Int)) v) (pCheck.L ((0:Int)) v)))))))))))))) (cond (!(p.Target.Kind==(0:Int) && p.Target.Bits==(0:Int))) (pCheck.L ((1:Int)) v) (Ob (o3 ((aForm p.Kind).data))∧(Ob (o3 ((aForm p.Kind).data))∧(Ob (o3 ((aForm p.Kind).data))∧(Ob (o2 ((aForm p.Kind).data))∧(cond (bif (aForm p.Kind).data then decide ((31:Int) < (↑(List.length p.Data): Int)) else false) (pCheck.L ((4:Int)) v) (Ob (o3 (!(aForm p.Kind).data))∧(Ob (o3 (!(aForm p.Kind).data))∧(Ob (o3 (!(aForm p.Kind).data))∧(Ob (o2 (!(aForm p.Kind).data))∧(cond (bif !(aForm p.Kind).data then decide ((0:Int) < (↑(List.length p.Data): Int)) else false) (pCheck.L ((1:Int)) v) (cond ((aForm p.Kind).conn) (pCheck.L (cCheck p.Conn) v) (cond (!(p.Conn.Access==(0:Int) && (p.Conn.Init==(0:Int) && (p.Conn.Update.WinSize==(0:Int) && (p.Conn.Update.WinOffset==(0:Int) && (p.Conn.Update.Interval==(0:Int) && (p.Conn.Update.Latency==(0:Int) && (p.Conn.Update.Timeout==(0:Int) && (p.Conn.Map==(0:Int) && (p.Conn.Hop==(0:Int) && (p.Conn.PPM==(0:Int) && p.Conn.Algorithm==(0:Int)))))))))))) (pCheck.L ((1:Int)) v) (pCheck.L ((0:Int)) v))))))))))))))))
theorem pCheck.nf_ok (p:AdvPDU) (v:Int): evFun (mkCxI Tryz.prog S tab_r17Check 0 false sum_fIdx) 4 46 [AdvPDU.av p] [] (fun r' H'=>Gives r' H' (pCheck.res v) (pCheck.news v))= pCheck.nf p v:=by kernel_rfl
theorem pCheck.key (p:AdvPDU) (v:Int) (hv:v=pCheck p): pCheck.nf p v:=by
 unfold pCheck at hv
 unfold pCheck.nf
 revert hv;refine by_cond2 (fun hb hv=>?_) (fun hb hv=>?_)
 ·subst hv;exact ⟨rfl,rfl⟩
 ·revert hv;refine by_cond2 (fun hb hv=>?_) (fun hb hv=>?_)
  ·subst hv;exact ⟨rfl,rfl⟩
  ·revert hv;refine by_cond2 (fun hb hv=>?_) (fun hb hv=>?_)
   ·revert hv;refine by_cond2 (fun hb hv=>?_) (fun hb hv=>?_)
    ·subst hv;exact ⟨rfl,rfl⟩
    ·refine ⟨⟨o3_ok _⟩, ?_⟩
     iterate 2 refine ⟨⟨o3_ok _⟩, ?_⟩
     refine ⟨⟨o2_ok _⟩, ?_⟩
     revert hv;refine by_cond2 (fun hb hv=>?_) (fun hb hv=>?_)
     ·subst hv;exact ⟨rfl,rfl⟩
     ·refine ⟨⟨o3_ok _⟩, ?_⟩
      iterate 2 refine ⟨⟨o3_ok _⟩, ?_⟩
      refine ⟨⟨o2_ok _⟩, ?_⟩
      revert hv;refine by_cond2 (fun hb hv=>?_) (fun hb hv=>?_)
      ·subst hv;exact ⟨rfl,rfl⟩
      ·revert hv;refine by_cond2 (fun hb hv=>?_) (fun hb hv=>?_)
       ·subst hv;exact ⟨rfl,rfl⟩
       ·revert hv;refine by_cond2 (fun hb hv=>?_) (fun hb hv=>?_)
        ·subst hv;exact ⟨rfl,rfl⟩
        ·subst hv;exact ⟨rfl,rfl⟩
   ·revert hv;refine by_cond2 (fun hb hv=>?_) (fun hb hv=>?_)
    ·subst hv;exact ⟨rfl,rfl⟩
    ·refine ⟨⟨o3_ok _⟩, ?_⟩
     iterate 2 refine ⟨⟨o3_ok _⟩, ?_⟩
     refine ⟨⟨o2_ok _⟩, ?_⟩
     revert hv;refine by_cond2 (fun hb hv=>?_) (fun hb hv=>?_)
     ·subst hv;exact ⟨rfl,rfl⟩
     ·refine ⟨⟨o3_ok _⟩, ?_⟩
      iterate 2 refine ⟨⟨o3_ok _⟩, ?_⟩
      refine ⟨⟨o2_ok _⟩, ?_⟩
      revert hv;refine by_cond2 (fun hb hv=>?_) (fun hb hv=>?_)
      ·subst hv;exact ⟨rfl,rfl⟩
      ·revert hv;refine by_cond2 (fun hb hv=>?_) (fun hb hv=>?_)
       ·subst hv;exact ⟨rfl,rfl⟩
       ·revert hv;refine by_cond2 (fun hb hv=>?_) (fun hb hv=>?_)
        ·subst hv;exact ⟨rfl,rfl⟩
        ·subst hv;exact ⟨rfl,rfl⟩
def pCheck.ct:Ct El:=ctOf pCheck.dec (fun _=>[]) (fun x=>pCheck.res (pCheck x)) (fun x=>pCheck.news (pCheck x))
theorem pCheck.ok:CtOk (mkCx Tryz.prog S [] 0) 46 pCheck.ct:=ct_mk (C:=(mkCxI Tryz.prog S tab_r17Check 0 false sum_fIdx)) (mkCxI_ok sigOk mixed tab_r17Check_ok 0 false sum_fIdx_ok) pCheck.dec_ok (fun x=>rfl) 4 (fun x _=>(pCheck.nf_ok x _).mpr (pCheck.key x _ rfl))
def tab_pCheck:List (FuncId×Ct El):= (46,pCheck.ct):: tab_r17Check
theorem tab_pCheck_ok:TabOk Tryz.prog S tab_pCheck:=⟨pCheck.ok,by kernel_rfl,tab_r17Check_ok⟩
def r19Check.res (r:Int): AV El:=.v (.int .i64 (r))
def r19Check.news (r:Int): List (AObj El):= []
def r19Check.L (e v:Int): Prop:=r19Check.res e=r19Check.res v∧r19Check.news e=r19Check.news v
def r19Check (p:AdvPDU): Int:=cond (bif decide (p.Kind < (0:Int)) then true else decide ((6:Int) < p.Kind)) ((12:Int)) (cond (r8Check p.Sender != (0:Int)) (r8Check p.Sender) (cond (hasTarget p.Kind) (cond (r8Check p.Target != (0:Int)) (r8Check p.Target) (cond (bif hasData p.Kind then decide ((31:Int) < (↑(List.length p.Data): Int)) else false) ((4:Int)) (cond (bif !hasData p.Kind then decide ((0:Int) < (↑(List.length p.Data): Int)) else false) ((1:Int)) (cond (p.Kind==(5:Int)) (r17Check p.Conn) (cond (!(p.Conn.Access==(0:Int) && (p.Conn.Init==(0:Int) && (p.Conn.Update.WinSize==(0:Int) && (p.Conn.Update.WinOffset==(0:Int) && (p.Conn.Update.Interval==(0:Int) && (p.Conn.Update.Latency==(0:Int) && (p.Conn.Update.Timeout==(0:Int) && (p.Conn.Map==(0:Int) && (p.Conn.Hop==(0:Int) && (p.Conn.PPM==(0:Int) && p.Conn.Algorithm==(0:Int)))))))))))) ((1:Int)) ((0:Int))))))) (cond (!(p.Target.Kind==(0:Int) && p.Target.Bits==(0:Int))) ((1:Int)) (cond (bif hasData p.Kind then decide ((31:Int) < (↑(List.length p.Data): Int)) else false) ((4:Int)) (cond (bif !hasData p.Kind then decide ((0:Int) < (↑(List.length p.Data): Int)) else false) ((1:Int)) (cond (p.Kind==(5:Int)) (r17Check p.Conn) (cond (!(p.Conn.Access==(0:Int) && (p.Conn.Init==(0:Int) && (p.Conn.Update.WinSize==(0:Int) && (p.Conn.Update.WinOffset==(0:Int) && (p.Conn.Update.Interval==(0:Int) && (p.Conn.Update.Latency==(0:Int) && (p.Conn.Update.Timeout==(0:Int) && (p.Conn.Map==(0:Int) && (p.Conn.Hop==(0:Int) && (p.Conn.PPM==(0:Int) && p.Conn.Algorithm==(0:Int)))))))))))) ((1:Int)) ((0:Int)))))))))
def r19Check.dec (cs:List (AV El)): Option (AdvPDU):= popA AdvPDU.dec cs fun a0 c0=>popE c0 a0
def r19Check.enc (x:AdvPDU): List (AV El):= [AdvPDU.av x]
theorem r19Check.dec_ok : ∀cs x,r19Check.dec cs=some x→Imp (S:=S) cs (r19Check.enc x):= by
 intro cs x h
 unfold r19Check.dec at h
 obtain ⟨a0,c0,h0,k0⟩:= popA_some (S:=S) AdvPDU.dec_ok h
 obtain ⟨rfl,rfl⟩:= popE_some (S:=S) h0
 exact (k0 _ (.refl _))
def r19Check.nf (p:AdvPDU) (v:Int): Prop:=Ob (o3 (!decide (p.Kind < (0:Int))))∧(Ob (o3 (!decide (p.Kind < (0:Int))))∧(Ob (on (decide (p.Kind < (0:Int))))∧(cond (bif decide (p.Kind < (0:Int)) then true else decide ((6:Int) < p.Kind)) (r19Check.L ((12:Int)) v) (cond (r8Check p.Sender != (0:Int)) (r19Check.L (r8Check p.Sender) v) (cond (hasTarget p.Kind) (cond (r8Check p.Target != (0:Int)) (r19Check.L (r8Check p.Target) v) (Ob (o3 (hasData p.Kind))∧(Ob (o3 (hasData p.Kind))∧(Ob (o3 (hasData p.Kind))∧(Ob (o2 (hasData p.Kind))∧(cond (bif hasData p.Kind then decide ((31:Int) < (↑(List.length p.Data): Int)) else false) (r19Check.L ((4:Int)) v) (Ob (o3 (!hasData p.Kind))∧(Ob (o3 (!hasData p.Kind))∧(Ob (o3 (!hasData p.Kind))∧(Ob (o2 (!hasData p.Kind))∧(cond (bif !hasData p.Kind then decide ((0:Int) < (↑(List.length p.Data): Int)) else false) (r19Check.L ((1:Int)) v) (cond (p.Kind==(5:Int)) (r19Check.L (r17Check p.Conn) v) (cond (!(p.Conn.Access==(0:Int) && (p.Conn.Init==(0:Int) && (p.Conn.Update.WinSize==(0:Int) && (p.Conn.Update.WinOffset==(0:Int) && (p.Conn.Update.Interval==(0:Int) && (p.Conn.Update.Latency==(0:Int) && (p.Conn.Update.Timeout==(0:Int) && (p.Conn.Map==(0:Int) && (p.Conn.Hop==(0:Int) && (p.Conn.PPM==(0:Int) && p.Conn.Algorithm==(0:Int)))))))))))) (r19Check.L ((1:Int)) v) (r19Check.L ((0:Int)) v)))))))))))))) (cond (!(p.Target.Kind==(0:Int) && p.Target.Bits==(0:Int))) (r19Check.L ((1:Int)) v) (Ob (o3 (hasData p.Kind))∧(Ob (o3 (hasData p.Kind))∧(Ob (o3 (hasData p.Kind))∧(Ob (o2 (hasData p.Kind))∧(cond (bif hasData p.Kind then decide ((31:Int) < (↑(List.length p.Data): Int)) else false) (r19Check.L ((4:Int)) v) (Ob (o3 (!hasData p.Kind))∧(Ob (o3 (!hasData p.Kind))∧(Ob (o3 (!hasData p.Kind))∧(Ob (o2 (!hasData p.Kind))∧(cond (bif !hasData p.Kind then decide ((0:Int) < (↑(List.length p.Data): Int)) else false) (r19Check.L ((1:Int)) v) (cond (p.Kind==(5:Int)) (r19Check.L (r17Check p.Conn) v) (cond (!(p.Conn.Access==(0:Int) && (p.Conn.Init==(0:Int) && (p.Conn.Update.WinSize==(0:Int) && (p.Conn.Update.WinOffset==(0:Int) && (p.Conn.Update.Interval==(0:Int) && (p.Conn.Update.Latency==(0:Int) && (p.Conn.Update.Timeout==(0:Int) && (p.Conn.Map==(0:Int) && (p.Conn.Hop==(0:Int) && (p.Conn.PPM==(0:Int) && p.Conn.Algorithm==(0:Int)))))))))))) (r19Check.L ((1:Int)) v) (r19Check.L ((0:Int)) v)))))))))))))))))))
theorem r19Check.nf_ok (p:AdvPDU) (v:Int): evFun (mkCxI Tryz.prog S tab_r17Check 0 false sum_fIdx) 4 51 [AdvPDU.av p] [] (fun r' H'=>Gives r' H' (r19Check.res v) (r19Check.news v))= r19Check.nf p v:=by kernel_rfl
theorem r19Check.key (p:AdvPDU) (v:Int) (hv:v=r19Check p): r19Check.nf p v:=by
 unfold r19Check at hv
 unfold r19Check.nf
 iterate 2 refine ⟨⟨o3_ok _⟩, ?_⟩
 refine ⟨⟨on_ok _⟩, ?_⟩
 revert hv;refine by_cond2 (fun hb hv=>?_) (fun hb hv=>?_)
 ·subst hv;exact ⟨rfl,rfl⟩
 ·revert hv;refine by_cond2 (fun hb hv=>?_) (fun hb hv=>?_)
  ·subst hv;exact ⟨rfl,rfl⟩
  ·revert hv;refine by_cond2 (fun hb hv=>?_) (fun hb hv=>?_)
   ·revert hv;refine by_cond2 (fun hb hv=>?_) (fun hb hv=>?_)
    ·subst hv;exact ⟨rfl,rfl⟩
    ·refine ⟨⟨o3_ok _⟩, ?_⟩
     iterate 2 refine ⟨⟨o3_ok _⟩, ?_⟩
     refine ⟨⟨o2_ok _⟩, ?_⟩
     revert hv;refine by_cond2 (fun hb hv=>?_) (fun hb hv=>?_)
     ·subst hv;exact ⟨rfl,rfl⟩
     ·refine ⟨⟨o3_ok _⟩, ?_⟩
      iterate 2 refine ⟨⟨o3_ok _⟩, ?_⟩
      refine ⟨⟨o2_ok _⟩, ?_⟩
      revert hv;refine by_cond2 (fun hb hv=>?_) (fun hb hv=>?_)
      ·subst hv;exact ⟨rfl,rfl⟩
      ·revert hv;refine by_cond2 (fun hb hv=>?_) (fun hb hv=>?_)
       ·subst hv;exact ⟨rfl,rfl⟩
       ·revert hv;refine by_cond2 (fun hb hv=>?_) (fun hb hv=>?_)
        ·subst hv;exact ⟨rfl,rfl⟩
        ·subst hv;exact ⟨rfl,rfl⟩
   ·revert hv;refine by_cond2 (fun hb hv=>?_) (fun hb hv=>?_)
    ·subst hv;exact ⟨rfl,rfl⟩
    ·refine ⟨⟨o3_ok _⟩, ?_⟩
     iterate 2 refine ⟨⟨o3_ok _⟩, ?_⟩
     refine ⟨⟨o2_ok _⟩, ?_⟩
     revert hv;refine by_cond2 (fun hb hv=>?_) (fun hb hv=>?_)
     ·subst hv;exact ⟨rfl,rfl⟩
     ·refine ⟨⟨o3_ok _⟩, ?_⟩
      iterate 2 refine ⟨⟨o3_ok _⟩, ?_⟩
      refine ⟨⟨o2_ok _⟩, ?_⟩
      revert hv;refine by_cond2 (fun hb hv=>?_) (fun hb hv=>?_)
      ·subst hv;exact ⟨rfl,rfl⟩
      ·revert hv;refine by_cond2 (fun hb hv=>?_) (fun hb hv=>?_)
       ·subst hv;exact ⟨rfl,rfl⟩
       ·revert hv;refine by_cond2 (fun hb hv=>?_) (fun hb hv=>?_)
        ·subst hv;exact ⟨rfl,rfl⟩
        ·subst hv;exact ⟨rfl,rfl⟩
def r19Check.ct:Ct El:=ctOf r19Check.dec (fun _=>[]) (fun x=>r19Check.res (r19Check x)) (fun x=>r19Check.news (r19Check x))
theorem r19Check.ok:CtOk (mkCx Tryz.prog S [] 0) 51 r19Check.ct:=ct_mk (C:=(mkCxI Tryz.prog S tab_r17Check 0 false sum_fIdx)) (mkCxI_ok sigOk mixed tab_r17Check_ok 0 false sum_fIdx_ok) r19Check.dec_ok (fun x=>rfl) 4 (fun x _=>(r19Check.nf_ok x _).mpr (r19Check.key x _ rfl))
def tab_r19Check:List (FuncId×Ct El):= (51,r19Check.ct):: tab_pCheck
theorem tab_r19Check_ok:TabOk Tryz.prog S tab_r19Check:=⟨r19Check.ok,by kernel_rfl,tab_pCheck_ok⟩
def r2Same.res (r:Bool): AV El:=.v (.bool (r))
def r2Same.news (r:Bool): List (AObj El):= []
def r2Same.L (e v:Bool): Prop:=r2Same.res e=r2Same.res v∧r2Same.news e=r2Same.news v
def r2Same (a:List Int) (b:List Int): Bool:=strEq (ofInts (id a)) (ofInts (id b))
def r2Same.dec (cs:List (AV El)): Option ((List Int)×(List Int)):= popS 5 cs fun a0 c0=>popS 5 c0 fun a1 c1=>popE c1 (a0,a1)
def r2Same.enc (x:(List Int)×(List Int)): List (AV El):= [.sl 5 (x.1:List (El 5)) false, .sl 5 (x.2:List (El 5)) false]
theorem r2Same.dec_ok : ∀cs x,r2Same.dec cs=some x→Imp (S:=S) cs (r2Same.enc x):= by
 intro cs x h
 unfold r2Same.dec at h
 obtain ⟨a0,c0,h0,k0⟩:= popS_some (S:=S) (t:=5) h
 obtain ⟨a1,c1,h1,k1⟩:= popS_some (S:=S) (t:=5) h0
 obtain ⟨rfl,rfl⟩:= popE_some (S:=S) h1
 exact (k0 _ (k1 _ (.refl _)))
def r2Same.nf (a:List Int) (b:List Int) (v:Bool): Prop:=r2Same.L (strEq (ofInts (id a)) (ofInts (id b))) v
theorem r2Same.nf_ok (a:List Int) (b:List Int) (v:Bool): evFun (mkCxI Tryz.prog S tab_r17Check 0 false sum_fIdx) 4 20 [.sl 5 (a:List (El 5)) false, .sl 5 (b:List (El 5)) false] [] (fun r' H'=>Gives r' H' (r2Same.res v) (r2Same.news v))= r2Same.nf a b v:=by kernel_rfl
theorem r2Same.key (a:List Int) (b:List Int) (v:Bool) (hv:v=r2Same a b): r2Same.nf a b v:=by
 unfold r2Same at hv
 unfold r2Same.nf
 subst hv;exact ⟨rfl,rfl⟩
def r2Same.ct:Ct El:=ctOf r2Same.dec (fun _=>[]) (fun x=>r2Same.res (r2Same x.1 x.2)) (fun x=>r2Same.news (r2Same x.1 x.2))
theorem r2Same.ok:CtOk (mkCx Tryz.prog S [] 0) 20 r2Same.ct:=ct_mk (C:=(mkCxI Tryz.prog S tab_r17Check 0 false sum_fIdx)) (mkCxI_ok sigOk mixed tab_r17Check_ok 0 false sum_fIdx_ok) r2Same.dec_ok (fun x=>rfl) 4 (fun x _=>(r2Same.nf_ok x.1 x.2 _).mpr (r2Same.key x.1 x.2 _ rfl))
def tab_r2Same:List (FuncId×Ct El):= (20,r2Same.ct):: tab_r19Check
theorem tab_r2Same_ok:TabOk Tryz.prog S tab_r2Same:=⟨r2Same.ok,by kernel_rfl,tab_r19Check_ok⟩
def aHas.res (r:Bool): AV El:=.v (.bool (r))
def aHas.news (r:Bool): List (AObj El):= []
def aHas.L (e v:Bool): Prop:=aHas.res e=aHas.res v∧aHas.news e=aHas.news v
def aHas.go (l:List Address) (p1:Address): Nat→Int→Bool
 | 0,_=>false
 | n0+1,i=>cond (decide (i < (↑(List.length l): Int))) (cond (p1.Kind==(List.getD l (Int.toNat i) Address.zero).Kind && p1.Bits==(List.getD l (Int.toNat i) Address.zero).Bits) (true) (aHas.go l p1 n0 (IntKind.wrap IntKind.i64 (i+(1:Int))))) (false)
def aHas.hd (l:List Address) (p1:Address) (i:Int): St El:={lo:=0,slots:=[(9, .v (.int .i64 (i))),(8, .v (.int .i64 ((↑(List.length l): Int)))),(7, .sl 26 (l:List (El 26)) false),(3, .ref 0 0)],n:=17,objs:=[.cells (Address.cells p1)]}
def aHas.st (l:List Address) (p1:Address) (i:Int) (J:St El→Prop) (v:Bool): Prop:=cond (decide (i < (↑(List.length l): Int))) (Ob ((0:Int)≤i∧i < (↑(List.length l): Int))∧(cond (p1.Kind==(List.getD l (Int.toNat i) Address.zero).Kind && p1.Bits==(List.getD l (Int.toNat i) Address.zero).Bits) (aHas.L (true) v) (J (aHas.hd l p1 (IntKind.wrap IntKind.i64 (i+(1:Int))))))) (aHas.L (false) v)
theorem aHas.st_ok (l:List Address) (p1:Address) (i:Int) (J:St El→Prop) (v:Bool): evCode (mkCxI Tryz.prog S tab_r2Same 0 false sum_fIdx) (evFun (mkCxI Tryz.prog S tab_r2Same 0 false sum_fIdx) 3) (loopB Tryz.prog 47 [true,false,true,false]) (aHas.hd l p1 i) (roundK (C:=(mkCxI Tryz.prog S tab_r2Same 0 false sum_fIdx)) [9,8,7,3] [] J (loopK (mkCxI Tryz.prog S tab_r2Same 0 false sum_fIdx) 3 47 [true,false,true,false] (fun r' H'=>Gives r' H' (aHas.res v) (aHas.news v))))= aHas.st l p1 i J v:=by kernel_rfl
def aHas.rng (l:List Address) (p1:Address) (n0:Nat) (i:Int): Prop:=0≤i∧i≤l.length∧(l.length - i).toNat < n0∧l.length≤9223372036854775807
theorem aHas.lp (l:List Address) (p1:Address) (v:Bool) (n0:Nat) (i:Int) (hv:v=aHas.go l p1 n0 i) (h0:aHas.rng l p1 n0 i) (st:St El) (q1:okH [9,8,7,3] [] st=true) (q2:headS [9,8,7,3] [] st=aHas.hd l p1 i): evCode (mkCxI Tryz.prog S tab_r2Same 0 false sum_fIdx) (evFun (mkCxI Tryz.prog S tab_r2Same 0 false sum_fIdx) 3) (.loop (loopB Tryz.prog 47 [true,false,true,false])) st (loopK (mkCxI Tryz.prog S tab_r2Same 0 false sum_fIdx) 3 47 [true,false,true,false] (fun r' H'=>Gives r' H' (aHas.res v) (aHas.news v))):= by
 refine loop_ev (by kernel_rfl) (evFun_mono _ _) [9,8,7,3] [] (X:=Nat×Int) (fun x=>aHas.hd l p1 x.2) (fun x=>x.1) (fun x=>aHas.rng l p1 x.1 x.2∧v=aHas.go l p1 x.1 x.2) (n0,i) ⟨q1,q2⟩ ⟨h0,hv⟩ ?_
 clear h0 hv q1 q2
 rintro ⟨n0,i⟩ ⟨hr,hv⟩
 dsimp only at hr hv
 cases n0 with
 | zero=>exact absurd hr (by unfold aHas.rng;omega)
 | succ n0 =>
 unfold aHas.rng at hr
 unfold aHas.go at hv
 refine (aHas.st_ok l p1 i _ _).mpr ?_
 unfold aHas.st
 revert hv;refine by_cond2 (fun hb hv=>?_) (fun hb hv=>?_)
 ·refine ⟨⟨by (try clear hv);(try clear q1 q2);(try clear hk);(first | omega | ((try simp only [decide_eq_true_eq,decide_eq_false_iff_not,Bool.not_eq_true,Bool.not_eq_false,Bool.and_eq_true,Bool.or_eq_true,Bool.not_not,cond_and,cond_or,List.length_append,List.length_cons,List.length_nil] at *);(first | done | ((first | omega | (intros;(try simp only [Bool.not_not,cond_and,cond_or,Bool.and_eq_true,decide_eq_true_eq] at *);(exact band_nn rfl _ _))| (intros;(try simp only [Bool.not_not,cond_and,cond_or,Bool.and_eq_true,decide_eq_true_eq] at *);(exact (wu64s _).2.1))| (intros;(try simp only [Bool.not_not,cond_and,cond_or,Bool.and_eq_true,decide_eq_true_eq] at *);(simp only [Bool.or_eq_false_iff,Bool.and_eq_false_iff,decide_eq_false_iff_not,decide_eq_true_eq,bne_iff_ne,beq_iff_eq,bne_eq_false_iff_eq,beq_eq_false_iff_ne,ne_eq,true_and] at *;omega))| (intros;(try simp only [Bool.not_not,cond_and,cond_or,Bool.and_eq_true,decide_eq_true_eq] at *);(simp only [List.length_drop,List.length_take,List.length_append,List.length_cons,List.length_nil] at *;omega))| (intros;omega)| (intros;simp only [Bool.not_not,cond_and,cond_or,Bool.and_eq_true,decide_eq_true_eq] at *;omega)| (intros;simp_all [Bool.not_not];done))))))⟩, ?_⟩
  revert hv;refine by_cond2 (fun hb hv=>?_) (fun hb hv=>?_)
  ·subst hv;exact ⟨rfl,rfl⟩
  ·exact ⟨(n0,(IntKind.wrap IntKind.i64 (i+(1:Int)))),(by kernel_rfl),Nat.lt_succ_self n0,(by dsimp only;unfold aHas.rng;(try clear hv);(try clear q1 q2);(try clear hk);(try simp only [decide_eq_true_eq,decide_eq_false_iff_not,Bool.not_eq_true,Bool.not_eq_false,Bool.and_eq_true,Bool.or_eq_true,Bool.not_not,cond_and,cond_or,List.length_append,List.length_cons,List.length_nil] at *);have:=wi64s (i+(1:Int));omega),hv⟩
 ·subst hv;exact ⟨rfl,rfl⟩
def aHas (l:List Address) (p1:Address): Bool:=aHas.go l p1 (l.length+1) ((0:Int))
def aHas.dec (cs:List (AV El)): Option ((List Address)×Address):= popS 26 cs fun a0 c0=>popA Address.dec c0 fun a1 c1=>popE c1 (a0,a1)
def aHas.enc (x:(List Address)×Address): List (AV El):= [.sl 26 (x.1:List (El 26)) false,Address.av x.2]
theorem aHas.dec_ok : ∀cs x,aHas.dec cs=some x→Imp (S:=S) cs (aHas.enc x):= by
 intro cs x h
 unfold aHas.dec at h
 obtain ⟨a0,c0,h0,k0⟩:= popS_some (S:=S) (t:=26) h
 obtain ⟨a1,c1,h1,k1⟩:= popA_some (S:=S) Address.dec_ok h0
 obtain ⟨rfl,rfl⟩:= popE_some (S:=S) h1
 exact (k0 _ (k1 _ (.refl _)))
def aHas.nf (l:List Address) (p1:Address) (v:Bool): Prop:=(List.length l≤(9223372036854775807:Nat))→(evCode (mkCxI Tryz.prog S tab_r2Same 0 false sum_fIdx) (evFun (mkCxI Tryz.prog S tab_r2Same 0 false sum_fIdx) 3) (.loop (loopB Tryz.prog 47 [true,false,true,false])) ({lo:=0,slots:=[(9, .v (.int .i64 ((0:Int)))),(8, .v (.int .i64 ((↑(List.length l): Int)))),(7, .sl 26 (l:List (El 26)) false),(4, .v (.bool (false))),(3, .ref 0 0),(0, .sl 26 (l:List (El 26)) false),(1, .agg (Address.cells p1))],n:=17,objs:=[.cells (Address.cells p1)]}) (loopK (mkCxI Tryz.prog S tab_r2Same 0 false sum_fIdx) 3 47 [true,false,true,false] (fun r' H'=>Gives r' H' (aHas.res v) (aHas.news v))))
theorem aHas.nf_ok (l:List Address) (p1:Address) (v:Bool): evFun (mkCxI Tryz.prog S tab_r2Same 0 false sum_fIdx) 4 47 [.sl 26 (l:List (El 26)) false,Address.av p1] [] (fun r' H'=>Gives r' H' (aHas.res v) (aHas.news v))= aHas.nf l p1 v:=by kernel_rfl
theorem aHas.key (l:List Address) (p1:Address) (v:Bool) (hv:v=aHas l p1): aHas.nf l p1 v:=by
 unfold aHas at hv
 unfold aHas.nf
 intro hlen
 exact aHas.lp l p1 v _ _ hv (by unfold aHas.rng;(try clear hv);(try clear q1 q2);(try clear hk);(first | omega | (simp only [List.length_nil];omega)| (simp;omega))) _ (by kernel_rfl) (by kernel_rfl)
def aHas.ct:Ct El:=ctOf aHas.dec (fun _=>[]) (fun x=>aHas.res (aHas x.1 x.2)) (fun x=>aHas.news (aHas x.1 x.2))
theorem aHas.ok:CtOk (mkCx Tryz.prog S [] 0) 47 aHas.ct:=ct_mk (C:=(mkCxI Tryz.prog S tab_r2Same 0 false sum_fIdx)) (mkCxI_ok sigOk mixed tab_r2Same_ok 0 false sum_fIdx_ok) aHas.dec_ok (fun x=>rfl) 4 (fun x _=>(aHas.nf_ok x.1 x.2 _).mpr (aHas.key x.1 x.2 _ rfl))
def tab_aHas:List (FuncId×Ct El):= (47,aHas.ct):: tab_r2Same
theorem tab_aHas_ok:TabOk Tryz.prog S tab_aHas:=⟨aHas.ok,by kernel_rfl,tab_r2Same_ok⟩
def r20Element.res (r:Bool): AV El:=.v (.bool (r))
def r20Element.news (r:Bool): List (AObj El):= []
def r20Element.L (e v:Bool): Prop:=r20Element.res e=r20Element.res v∧r20Element.news e=r20Element.news v
def r20Element.go (l:List Address) (a:Address): Nat→Int→Bool
 | 0,_=>false
 | n0+1,i=>cond (decide (i < (↑(List.length l): Int))) (cond ((List.getD l (Int.toNat i) Address.zero).Kind==a.Kind && (List.getD l (Int.toNat i) Address.zero).Bits==a.Bits) (true) (r20Element.go l a n0 (IntKind.wrap IntKind.i64 (i+(1:Int))))) (false)
def r20Element.hd (l:List Address) (a:Address) (i:Int): St El:={lo:=0,slots:=[(5, .v (.int .i64 (i))),(3, .ref 0 0),(0, .sl 26 (l:List (El 26)) false)],n:=18,objs:=[.cells (Address.cells a)]}
def r20Element.st (l:List Address) (a:Address) (i:Int) (J:St El→Prop) (v:Bool): Prop:=(List.length l≤(9223372036854775807:Nat))→(cond (decide (i < (↑(List.length l): Int))) (Ob ((0:Int)≤i∧i < (↑(List.length l): Int))∧(cond ((List.getD l (Int.toNat i) Address.zero).Kind==a.Kind && (List.getD l (Int.toNat i) Address.zero).Bits==a.Bits) (r20Element.L (true) v) (J (r20Element.hd l a (IntKind.wrap IntKind.i64 (i+(1:Int))))))) (r20Element.L (false) v))
theorem r20Element.st_ok (l:List Address) (a:Address) (i:Int) (J:St El→Prop) (v:Bool): evCode (mkCxI Tryz.prog S tab_aHas 0 false sum_fIdx) (evFun (mkCxI Tryz.prog S tab_aHas 0 false sum_fIdx) 3) (loopB Tryz.prog 54 [true,false,true,false]) (r20Element.hd l a i) (roundK (C:=(mkCxI Tryz.prog S tab_aHas 0 false sum_fIdx)) [5,3,0] [] J (loopK (mkCxI Tryz.prog S tab_aHas 0 false sum_fIdx) 3 54 [true,false,true,false] (fun r' H'=>Gives r' H' (r20Element.res v) (r20Element.news v))))= r20Element.st l a i J v:=by kernel_rfl
def r20Element.rng (l:List Address) (a:Address) (n0:Nat) (i:Int): Prop:=0≤i∧i≤l.length∧(l.length - i).toNat < n0
theorem r20Element.lp (l:List Address) (a:Address) (v:Bool) (n0:Nat) (i:Int) (hv:v=r20Element.go l a n0 i) (h0:r20Element.rng l a n0 i) (st:St El) (q1:okH [5,3,0] [] st=true) (q2:headS [5,3,0] [] st=r20Element.hd l a i): evCode (mkCxI Tryz.prog S tab_aHas 0 false sum_fIdx) (evFun (mkCxI Tryz.prog S tab_aHas 0 false sum_fIdx) 3) (.loop (loopB Tryz.prog 54 [true,false,true,false])) st (loopK (mkCxI Tryz.prog S tab_aHas 0 false sum_fIdx) 3 54 [true,false,true,false] (fun r' H'=>Gives r' H' (r20Element.res v) (r20Element.news v))):= by
 refine loop_ev (by kernel_rfl) (evFun_mono _ _) [5,3,0] [] (X:=Nat×Int) (fun x=>r20Element.hd l a x.2) (fun x=>x.1) (fun x=>r20Element.rng l a x.1 x.2∧v=r20Element.go l a x.1 x.2) (n0,i) ⟨q1,q2⟩ ⟨h0,hv⟩ ?_
 clear h0 hv q1 q2
 rintro ⟨n0,i⟩ ⟨hr,hv⟩
 dsimp only at hr hv
 cases n0 with
 | zero=>exact absurd hr (by unfold r20Element.rng;omega)
 | succ n0 =>
 unfold r20Element.rng at hr
 unfold r20Element.go at hv
 refine (r20Element.st_ok l a i _ _).mpr ?_
 unfold r20Element.st
 intro hlen
 revert hv;refine by_cond2 (fun hb hv=>?_) (fun hb hv=>?_)
 ·refine ⟨⟨by (try clear hv);(try clear q1 q2);(try clear hk);(first | omega | ((try simp only [decide_eq_true_eq,decide_eq_false_iff_not,Bool.not_eq_true,Bool.not_eq_false,Bool.and_eq_true,Bool.or_eq_true,Bool.not_not,cond_and,cond_or,List.length_append,List.length_cons,List.length_nil] at *);(first | done | ((first | omega | (intros;(try simp only [Bool.not_not,cond_and,cond_or,Bool.and_eq_true,decide_eq_true_eq] at *);(exact band_nn rfl _ _))| (intros;(try simp only [Bool.not_not,cond_and,cond_or,Bool.and_eq_true,decide_eq_true_eq] at *);(exact (wu64s _).2.1))| (intros;(try simp only [Bool.not_not,cond_and,cond_or,Bool.and_eq_true,decide_eq_true_eq] at *);(simp only [Bool.or_eq_false_iff,Bool.and_eq_false_iff,decide_eq_false_iff_not,decide_eq_true_eq,bne_iff_ne,beq_iff_eq,bne_eq_false_iff_eq,beq_eq_false_iff_ne,ne_eq,true_and] at *;omega))| (intros;(try simp only [Bool.not_not,cond_and,cond_or,Bool.and_eq_true,decide_eq_true_eq] at *);(simp only [List.length_drop,List.length_take,List.length_append,List.length_cons,List.length_nil] at *;omega))| (intros;omega)| (intros;simp only [Bool.not_not,cond_and,cond_or,Bool.and_eq_true,decide_eq_true_eq] at *;omega)| (intros;simp_all [Bool.not_not];done))))))⟩, ?_⟩
  revert hv;refine by_cond2 (fun hb hv=>?_) (fun hb hv=>?_)
  ·subst hv;exact ⟨rfl,rfl⟩
  ·exact ⟨(n0,(IntKind.wrap IntKind.i64 (i+(1:Int)))),(by kernel_rfl),Nat.lt_succ_self n0,(by dsimp only;unfold r20Element.rng;(try clear hv);(try clear q1 q2);(try clear hk);(try simp only [decide_eq_true_eq,decide_eq_false_iff_not,Bool.not_eq_true,Bool.not_eq_false,Bool.and_eq_true,Bool.or_eq_true,Bool.not_not,cond_and,cond_or,List.length_append,List.length_cons,List.length_nil] at *);have:=wi64s (i+(1:Int));omega),hv⟩
 ·subst hv;exact ⟨rfl,rfl⟩
def r20Element (l:List Address) (a:Address): Bool:=r20Element.go l a (l.length+1) ((0:Int))
def r20Element.dec (cs:List (AV El)): Option ((List Address)×Address):= popS 26 cs fun a0 c0=>popA Address.dec c0 fun a1 c1=>popE c1 (a0,a1)
def r20Element.enc (x:(List Address)×Address): List (AV El):= [.sl 26 (x.1:List (El 26)) false,Address.av x.2]
theorem r20Element.dec_ok : ∀cs x,r20Element.dec cs=some x→Imp (S:=S) cs (r20Element.enc x):= by
 intro cs x h
 unfold r20Element.dec at h
 obtain ⟨a0,c0,h0,k0⟩:= popS_some (S:=S) (t:=26) h
 obtain ⟨a1,c1,h1,k1⟩:= popA_some (S:=S) Address.dec_ok h0
 obtain ⟨rfl,rfl⟩:= popE_some (S:=S) h1
 exact (k0 _ (k1 _ (.refl _)))
def r20Element.nf (l:List Address) (a:Address) (v:Bool): Prop:=evCode (mkCxI Tryz.prog S tab_aHas 0 false sum_fIdx) (evFun (mkCxI Tryz.prog S tab_aHas 0 false sum_fIdx) 3) (.loop (loopB Tryz.prog 54 [true,false,true,false])) ({lo:=0,slots:=[(5, .v (.int .i64 ((0:Int)))),(4, .v (.bool (false))),(3, .ref 0 0),(0, .sl 26 (l:List (El 26)) false),(1, .agg (Address.cells a))],n:=18,objs:=[.cells (Address.cells a)]}) (loopK (mkCxI Tryz.prog S tab_aHas 0 false sum_fIdx) 3 54 [true,false,true,false] (fun r' H'=>Gives r' H' (r20Element.res v) (r20Element.news v)))
theorem r20Element.nf_ok (l:List Address) (a:Address) (v:Bool): evFun (mkCxI Tryz.prog S tab_aHas 0 false sum_fIdx) 4 54 [.sl 26 (l:List (El 26)) false,Address.av a] [] (fun r' H'=>Gives r' H' (r20Element.res v) (r20Element.news v))= r20Element.nf l a v:=by kernel_rfl
theorem r20Element.key (l:List Address) (a:Address) (v:Bool) (hv:v=r20Element l a): r20Element.nf l a v:=by
 unfold r20Element at hv
 unfold r20Element.nf
 exact r20Element.lp l a v _ _ hv (by unfold r20Element.rng;(try clear hv);(try clear q1 q2);(try clear hk);(first | omega | (simp only [List.length_nil];omega)| (simp;omega))) _ (by kernel_rfl) (by kernel_rfl)
def r20Element.ct:Ct El:=ctOf r20Element.dec (fun _=>[]) (fun x=>r20Element.res (r20Element x.1 x.2)) (fun x=>r20Element.news (r20Element x.1 x.2))
theorem r20Element.ok:CtOk (mkCx Tryz.prog S [] 0) 54 r20Element.ct:=ct_mk (C:=(mkCxI Tryz.prog S tab_aHas 0 false sum_fIdx)) (mkCxI_ok sigOk mixed tab_aHas_ok 0 false sum_fIdx_ok) r20Element.dec_ok (fun x=>rfl) 4 (fun x _=>(r20Element.nf_ok x.1 x.2 _).mpr (r20Element.key x.1 x.2 _ rfl))
def tab_r20Element:List (FuncId×Ct El):= (54,r20Element.ct):: tab_aHas
theorem tab_r20Element_ok:TabOk Tryz.prog S tab_r20Element:=⟨r20Element.ok,by kernel_rfl,tab_aHas_ok⟩
def r20Same.res (r:Bool): AV El:=.v (.bool (r))
def r20Same.news (r:Bool): List (AObj El):= []
def r20Same.L (e v:Bool): Prop:=r20Same.res e=r20Same.res v∧r20Same.news e=r20Same.news v
def r20Same.go (a:List Address) (b:List Address): Nat→Int→Bool
 | 0,_=>false
 | n0+1,i=>cond (decide (i < (↑(List.length a): Int))) (cond (!((List.getD a (Int.toNat i) Address.zero).Kind==(List.getD b (Int.toNat i) Address.zero).Kind && (List.getD a (Int.toNat i) Address.zero).Bits==(List.getD b (Int.toNat i) Address.zero).Bits)) (false) (r20Same.go a b n0 (IntKind.wrap IntKind.i64 (i+(1:Int))))) (true)
def r20Same.hd (a:List Address) (b:List Address) (i:Int): St El:={lo:=0,slots:=[(5, .v (.int .i64 (i))),(0, .sl 26 (a:List (El 26)) false),(1, .sl 26 (b:List (El 26)) false)],n:=26,objs:=[]}
def r20Same.st (a:List Address) (b:List Address) (i:Int) (J:St El→Prop) (v:Bool): Prop:=(List.length a≤(9223372036854775807:Nat))→(cond (decide (i < (↑(List.length a): Int))) (Ob ((0:Int)≤i∧i < (↑(List.length a): Int))∧(Ob ((0:Int)≤i∧i < (↑(List.length b): Int))∧(cond (!((List.getD a (Int.toNat i) Address.zero).Kind==(List.getD b (Int.toNat i) Address.zero).Kind && (List.getD a (Int.toNat i) Address.zero).Bits==(List.getD b (Int.toNat i) Address.zero).Bits)) (r20Same.L (false) v) (J (r20Same.hd a b (IntKind.wrap IntKind.i64 (i+(1:Int)))))))) (r20Same.L (true) v))
theorem r20Same.st_ok (a:List Address) (b:List Address) (i:Int) (J:St El→Prop) (v:Bool): evCode (mkCxI Tryz.prog S tab_r20Element 0 false sum_fIdx) (evFun (mkCxI Tryz.prog S tab_r20Element 0 false sum_fIdx) 3) (loopB Tryz.prog 39 [true,true,false,true,false]) (r20Same.hd a b i) (roundK (C:=(mkCxI Tryz.prog S tab_r20Element 0 false sum_fIdx)) [5,0,1] [] J (loopK (mkCxI Tryz.prog S tab_r20Element 0 false sum_fIdx) 3 39 [true,true,false,true,false] (fun r' H'=>Gives r' H' (r20Same.res v) (r20Same.news v))))= r20Same.st a b i J v:=by kernel_rfl
def r20Same.rng (a:List Address) (b:List Address) (n0:Nat) (i:Int): Prop:=0≤i∧i≤a.length∧(a.length - i).toNat < n0∧a.length=b.length
theorem r20Same.lp (a:List Address) (b:List Address) (v:Bool) (n0:Nat) (i:Int) (hv:v=r20Same.go a b n0 i) (h0:r20Same.rng a b n0 i) (st:St El) (q1:okH [5,0,1] [] st=true) (q2:headS [5,0,1] [] st=r20Same.hd a b i): evCode (mkCxI Tryz.prog S tab_r20Element 0 false sum_fIdx) (evFun (mkCxI Tryz.prog S tab_r20Element 0 false sum_fIdx) 3) (.loop (loopB Tryz.prog 39 [true,true,false,true,false])) st (loopK (mkCxI Tryz.prog S tab_r20Element 0 false sum_fIdx) 3 39 [true,true,false,true,false] (fun r' H'=>Gives r' H' (r20Same.res v) (r20Same.news v))):= by
 refine loop_ev (by kernel_rfl) (evFun_mono _ _) [5,0,1] [] (X:=Nat×Int) (fun x=>r20Same.hd a b x.2) (fun x=>x.1) (fun x=>r20Same.rng a b x.1 x.2∧v=r20Same.go a b x.1 x.2) (n0,i) ⟨q1,q2⟩ ⟨h0,hv⟩ ?_
 clear h0 hv q1 q2
 rintro ⟨n0,i⟩ ⟨hr,hv⟩
 dsimp only at hr hv
 cases n0 with
 | zero=>exact absurd hr (by unfold r20Same.rng;omega)
 | succ n0 =>
 unfold r20Same.rng at hr
 unfold r20Same.go at hv
 refine (r20Same.st_ok a b i _ _).mpr ?_
 unfold r20Same.st
 intro hlen
 revert hv;refine by_cond2 (fun hb hv=>?_) (fun hb hv=>?_)
 refine ⟨⟨?_⟩, ?_⟩;rotate_left
 refine ⟨⟨?_⟩, ?_⟩;rotate_left
 revert hv;refine by_cond2 (fun hb hv=>?_) (fun hb hv=>?_)
 subst hv;exact ⟨rfl,rfl⟩
 exact ⟨(n0,(IntKind.wrap IntKind.i64 (i+(1:Int)))),(by kernel_rfl),Nat.lt_succ_self n0,(by dsimp only;unfold r20Same.rng;(try clear hv);(try clear q1 q2);(try clear hk);(try simp only [decide_eq_true_eq,decide_eq_false_iff_not,Bool.not_eq_true,Bool.not_eq_false,Bool.and_eq_true,Bool.or_eq_true,Bool.not_not,cond_and,cond_or,List.length_append,List.length_cons,List.length_nil] at *);have:=wi64s (i+(1:Int));omega),hv⟩
 subst hv;exact ⟨rfl,rfl⟩
 all_goals ((try clear hv);(try clear q1 q2);(try clear hk);(first | omega | ((try simp only [decide_eq_true_eq,decide_eq_false_iff_not,Bool.not_eq_true,Bool.not_eq_false,Bool.and_eq_true,Bool.or_eq_true,Bool.not_not,cond_and,cond_or,List.length_append,List.length_cons,List.length_nil] at *);(first | done | ((first | omega | (intros;(try simp only [Bool.not_not,cond_and,cond_or,Bool.and_eq_true,decide_eq_true_eq] at *);(exact band_nn rfl _ _))| (intros;(try simp only [Bool.not_not,cond_and,cond_or,Bool.and_eq_true,decide_eq_true_eq] at *);(exact (wu64s _).2.1))| (intros;(try simp only [Bool.not_not,cond_and,cond_or,Bool.and_eq_true,decide_eq_true_eq] at *);(simp only [Bool.or_eq_false_iff,Bool.and_eq_false_iff,decide_eq_false_iff_not,decide_eq_true_eq,bne_iff_ne,beq_iff_eq,bne_eq_false_iff_eq,beq_eq_false_iff_ne,ne_eq,true_and] at *;omega))| (intros;(try simp only [Bool.not_not,cond_and,cond_or,Bool.and_eq_true,decide_eq_true_eq] at *);(simp only [List.length_drop,List.length_take,List.length_append,List.length_cons,List.length_nil] at *;omega))| (intros;omega)| (intros;simp only [Bool.not_not,cond_and,cond_or,Bool.and_eq_true,decide_eq_true_eq] at *;omega)| (intros;simp_all [Bool.not_not];done)))))))
def r20Same (a:List Address) (b:List Address): Bool:=cond ((↑(List.length a): Int) != (↑(List.length b): Int)) (false) (r20Same.go a b (a.length+1) ((0:Int)))
def r20Same.dec (cs:List (AV El)): Option ((List Address)×(List Address)):= popS 26 cs fun a0 c0=>popS 26 c0 fun a1 c1=>popE c1 (a0,a1)
def r20Same.enc (x:(List Address)×(List Address)): List (AV El):= [.sl 26 (x.1:List (El 26)) false, .sl 26 (x.2:List (El 26)) false]
theorem r20Same.dec_ok : ∀cs x,r20Same.dec cs=some x→Imp (S:=S) cs (r20Same.enc x):= by
 intro cs x h
 unfold r20Same.dec at h
 obtain ⟨a0,c0,h0,k0⟩:= popS_some (S:=S) (t:=26) h
 obtain ⟨a1,c1,h1,k1⟩:= popS_some (S:=S) (t:=26) h0
 obtain ⟨rfl,rfl⟩:= popE_some (S:=S) h1
 exact (k0 _ (k1 _ (.refl _)))
def r20Same.nf (a:List Address) (b:List Address) (v:Bool): Prop:=(List.length a≤(9223372036854775807:Nat))→((List.length b≤(9223372036854775807:Nat))→(cond ((↑(List.length a): Int) != (↑(List.length b): Int)) (r20Same.L (false) v) (evCode (mkCxI Tryz.prog S tab_r20Element 0 false sum_fIdx) (evFun (mkCxI Tryz.prog S tab_r20Element 0 false sum_fIdx) 3) (.loop (loopB Tryz.prog 39 [true,true,false,true,false])) ({lo:=0,slots:=[(5, .v (.int .i64 ((0:Int)))),(10, .v (.bool (false))),(10, .v (.bool ((↑(List.length a): Int) != (↑(List.length b): Int)))),(9, .v (.int .i64 ((↑(List.length b): Int)))),(8, .sl 26 (b:List (El 26)) false),(7, .v (.int .i64 ((↑(List.length a): Int)))),(6, .sl 26 (a:List (El 26)) false),(4, .v (.bool (false))),(0, .sl 26 (a:List (El 26)) false),(1, .sl 26 (b:List (El 26)) false)],n:=26,objs:=[]}) (loopK (mkCxI Tryz.prog S tab_r20Element 0 false sum_fIdx) 3 39 [true,true,false,true,false] (fun r' H'=>Gives r' H' (r20Same.res v) (r20Same.news v))))))
theorem r20Same.nf_ok (a:List Address) (b:List Address) (v:Bool): evFun (mkCxI Tryz.prog S tab_r20Element 0 false sum_fIdx) 4 39 [.sl 26 (a:List (El 26)) false, .sl 26 (b:List (El 26)) false] [] (fun r' H'=>Gives r' H' (r20Same.res v) (r20Same.news v))= r20Same.nf a b v:=by kernel_rfl
theorem r20Same.key (a:List Address) (b:List Address) (v:Bool) (hv:v=r20Same a b): r20Same.nf a b v:=by
 unfold r20Same at hv
 unfold r20Same.nf
 intro hlen
 intro hlen
 revert hv;refine by_cond2 (fun hb hv=>?_) (fun hb hv=>?_)
 ·subst hv;exact ⟨rfl,rfl⟩
 ·exact r20Same.lp a b v _ _ hv (by unfold r20Same.rng;(try clear hv);(try clear q1 q2);(try clear hk);((try simp only [bne_eq_false_iff_eq] at *);omega)) _ (by kernel_rfl) (by kernel_rfl)
def r20Same.ct:Ct El:=ctOf r20Same.dec (fun _=>[]) (fun x=>r20Same.res (r20Same x.1 x.2)) (fun x=>r20Same.news (r20Same x.1 x.2))
theorem r20Same.ok:CtOk (mkCx Tryz.prog S [] 0) 39 r20Same.ct:=ct_mk (C:=(mkCxI Tryz.prog S tab_r20Element 0 false sum_fIdx)) (mkCxI_ok sigOk mixed tab_r20Element_ok 0 false sum_fIdx_ok) r20Same.dec_ok (fun x=>rfl) 4 (fun x _=>(r20Same.nf_ok x.1 x.2 _).mpr (r20Same.key x.1 x.2 _ rfl))
def tab_r20Same:List (FuncId×Ct El):= (39,r20Same.ct):: tab_r20Element
theorem tab_r20Same_ok:TabOk Tryz.prog S tab_r20Same:=⟨r20Same.ok,by kernel_rfl,tab_r20Element_ok⟩
def r21SameIds.res (r:Bool): AV El:=.v (.bool (r))
def r21SameIds.news (r:Bool): List (AObj El):= []
def r21SameIds.L (e v:Bool): Prop:=r21SameIds.res e=r21SameIds.res v∧r21SameIds.news e=r21SameIds.news v
def r21SameIds.go (a:List Identity) (b:List Identity): Nat→Int→Bool
 | 0,_=>false
 | n0+1,i=>cond (decide (i < (↑(List.length a): Int))) (cond (!((List.getD a (Int.toNat i) Identity.zero).Address.Kind==(List.getD b (Int.toNat i) Identity.zero).Address.Kind && ((List.getD a (Int.toNat i) Identity.zero).Address.Bits==(List.getD b (Int.toNat i) Identity.zero).Address.Bits && (List.getD a (Int.toNat i) Identity.zero).IRK==(List.getD b (Int.toNat i) Identity.zero).IRK))) (false) (r21SameIds.go a b n0 (IntKind.wrap IntKind.i64 (i+(1:Int))))) (true)
def r21SameIds.hd (a:List Identity) (b:List Identity) (i:Int): St El:={lo:=0,slots:=[(5, .v (.int .i64 (i))),(0, .sl 88 (a:List (El 88)) false),(1, .sl 88 (b:List (El 88)) false)],n:=26,objs:=[]}
def r21SameIds.st (a:List Identity) (b:List Identity) (i:Int) (J:St El→Prop) (v:Bool): Prop:=(List.length a≤(9223372036854775807:Nat))→(cond (decide (i < (↑(List.length a): Int))) (Ob ((0:Int)≤i∧i < (↑(List.length a): Int))∧(Ob ((0:Int)≤i∧i < (↑(List.length b): Int))∧(cond (!((List.getD a (Int.toNat i) Identity.zero).Address.Kind==(List.getD b (Int.toNat i) Identity.zero).Address.Kind && ((List.getD a (Int.toNat i) Identity.zero).Address.Bits==(List.getD b (Int.toNat i) Identity.zero).Address.Bits && (List.getD a (Int.toNat i) Identity.zero).IRK==(List.getD b (Int.toNat i) Identity.zero).IRK))) (r21SameIds.L (false) v) (J (r21SameIds.hd a b (IntKind.wrap IntKind.i64 (i+(1:Int)))))))) (r21SameIds.L (true) v))
theorem r21SameIds.st_ok (a:List Identity) (b:List Identity) (i:Int) (J:St El→Prop) (v:Bool): evCode (mkCxI Tryz.prog S tab_r20Same 0 false sum_fIdx) (evFun (mkCxI Tryz.prog S tab_r20Same 0 false sum_fIdx) 3) (loopB Tryz.prog 40 [true,true,false,true,false]) (r21SameIds.hd a b i) (roundK (C:=(mkCxI Tryz.prog S tab_r20Same 0 false sum_fIdx)) [5,0,1] [] J (loopK (mkCxI Tryz.prog S tab_r20Same 0 false sum_fIdx) 3 40 [true,true,false,true,false] (fun r' H'=>Gives r' H' (r21SameIds.res v) (r21SameIds.news v))))= r21SameIds.st a b i J v:=by kernel_rfl
def r21SameIds.rng (a:List Identity) (b:List Identity) (n0:Nat) (i:Int): Prop:=0≤i∧i≤a.length∧(a.length - i).toNat < n0∧a.length=b.length
theorem r21SameIds.lp (a:List Identity) (b:List Identity) (v:Bool) (n0:Nat) (i:Int) (hv:v=r21SameIds.go a b n0 i) (h0:r21SameIds.rng a b n0 i) (st:St El) (q1:okH [5,0,1] [] st=true) (q2:headS [5,0,1] [] st=r21SameIds.hd a b i): evCode (mkCxI Tryz.prog S tab_r20Same 0 false sum_fIdx) (evFun (mkCxI Tryz.prog S tab_r20Same 0 false sum_fIdx) 3) (.loop (loopB Tryz.prog 40 [true,true,false,true,false])) st (loopK (mkCxI Tryz.prog S tab_r20Same 0 false sum_fIdx) 3 40 [true,true,false,true,false] (fun r' H'=>Gives r' H' (r21SameIds.res v) (r21SameIds.news v))):= by
 refine loop_ev (by kernel_rfl) (evFun_mono _ _) [5,0,1] [] (X:=Nat×Int) (fun x=>r21SameIds.hd a b x.2) (fun x=>x.1) (fun x=>r21SameIds.rng a b x.1 x.2∧v=r21SameIds.go a b x.1 x.2) (n0,i) ⟨q1,q2⟩ ⟨h0,hv⟩ ?_
 clear h0 hv q1 q2
 rintro ⟨n0,i⟩ ⟨hr,hv⟩
 dsimp only at hr hv
 cases n0 with
 | zero=>exact absurd hr (by unfold r21SameIds.rng;omega)
 | succ n0 =>
 unfold r21SameIds.rng at hr
 unfold r21SameIds.go at hv
 refine (r21SameIds.st_ok a b i _ _).mpr ?_
 unfold r21SameIds.st
 intro hlen
 revert hv;refine by_cond2 (fun hb hv=>?_) (fun hb hv=>?_)
 refine ⟨⟨?_⟩, ?_⟩;rotate_left
 refine ⟨⟨?_⟩, ?_⟩;rotate_left
 revert hv;refine by_cond2 (fun hb hv=>?_) (fun hb hv=>?_)
 subst hv;exact ⟨rfl,rfl⟩
 exact ⟨(n0,(IntKind.wrap IntKind.i64 (i+(1:Int)))),(by kernel_rfl),Nat.lt_succ_self n0,(by dsimp only;unfold r21SameIds.rng;(try clear hv);(try clear q1 q2);(try clear hk);(try simp only [decide_eq_true_eq,decide_eq_false_iff_not,Bool.not_eq_true,Bool.not_eq_false,Bool.and_eq_true,Bool.or_eq_true,Bool.not_not,cond_and,cond_or,List.length_append,List.length_cons,List.length_nil] at *);have:=wi64s (i+(1:Int));omega),hv⟩
 subst hv;exact ⟨rfl,rfl⟩
 all_goals ((try clear hv);(try clear q1 q2);(try clear hk);(first | omega | ((try simp only [decide_eq_true_eq,decide_eq_false_iff_not,Bool.not_eq_true,Bool.not_eq_false,Bool.and_eq_true,Bool.or_eq_true,Bool.not_not,cond_and,cond_or,List.length_append,List.length_cons,List.length_nil] at *);(first | done | ((first | omega | (intros;(try simp only [Bool.not_not,cond_and,cond_or,Bool.and_eq_true,decide_eq_true_eq] at *);(exact band_nn rfl _ _))| (intros;(try simp only [Bool.not_not,cond_and,cond_or,Bool.and_eq_true,decide_eq_true_eq] at *);(exact (wu64s _).2.1))| (intros;(try simp only [Bool.not_not,cond_and,cond_or,Bool.and_eq_true,decide_eq_true_eq] at *);(simp only [Bool.or_eq_false_iff,Bool.and_eq_false_iff,decide_eq_false_iff_not,decide_eq_true_eq,bne_iff_ne,beq_iff_eq,bne_eq_false_iff_eq,beq_eq_false_iff_ne,ne_eq,true_and] at *;omega))| (intros;(try simp only [Bool.not_not,cond_and,cond_or,Bool.and_eq_true,decide_eq_true_eq] at *);(simp only [List.length_drop,List.length_take,List.length_append,List.length_cons,List.length_nil] at *;omega))| (intros;omega)| (intros;simp only [Bool.not_not,cond_and,cond_or,Bool.and_eq_true,decide_eq_true_eq] at *;omega)| (intros;simp_all [Bool.not_not];done)))))))
def r21SameIds (a:List Identity) (b:List Identity): Bool:=cond ((↑(List.length a): Int) != (↑(List.length b): Int)) (false) (r21SameIds.go a b (a.length+1) ((0:Int)))
def r21SameIds.dec (cs:List (AV El)): Option ((List Identity)×(List Identity)):= popS 88 cs fun a0 c0=>popS 88 c0 fun a1 c1=>popE c1 (a0,a1)
def r21SameIds.enc (x:(List Identity)×(List Identity)): List (AV El):= [.sl 88 (x.1:List (El 88)) false, .sl 88 (x.2:List (El 88)) false]
theorem r21SameIds.dec_ok : ∀cs x,r21SameIds.dec cs=some x→Imp (S:=S) cs (r21SameIds.enc x):= by
 intro cs x h
 unfold r21SameIds.dec at h
 obtain ⟨a0,c0,h0,k0⟩:= popS_some (S:=S) (t:=88) h
 obtain ⟨a1,c1,h1,k1⟩:= popS_some (S:=S) (t:=88) h0
 obtain ⟨rfl,rfl⟩:= popE_some (S:=S) h1
 exact (k0 _ (k1 _ (.refl _)))
def r21SameIds.nf (a:List Identity) (b:List Identity) (v:Bool): Prop:=(List.length a≤(9223372036854775807:Nat))→((List.length b≤(9223372036854775807:Nat))→(cond ((↑(List.length a): Int) != (↑(List.length b): Int)) (r21SameIds.L (false) v) (evCode (mkCxI Tryz.prog S tab_r20Same 0 false sum_fIdx) (evFun (mkCxI Tryz.prog S tab_r20Same 0 false sum_fIdx) 3) (.loop (loopB Tryz.prog 40 [true,true,false,true,false])) ({lo:=0,slots:=[(5, .v (.int .i64 ((0:Int)))),(10, .v (.bool (false))),(10, .v (.bool ((↑(List.length a): Int) != (↑(List.length b): Int)))),(9, .v (.int .i64 ((↑(List.length b): Int)))),(8, .sl 88 (b:List (El 88)) false),(7, .v (.int .i64 ((↑(List.length a): Int)))),(6, .sl 88 (a:List (El 88)) false),(4, .v (.bool (false))),(0, .sl 88 (a:List (El 88)) false),(1, .sl 88 (b:List (El 88)) false)],n:=26,objs:=[]}) (loopK (mkCxI Tryz.prog S tab_r20Same 0 false sum_fIdx) 3 40 [true,true,false,true,false] (fun r' H'=>Gives r' H' (r21SameIds.res v) (r21SameIds.news v))))))
theorem r21SameIds.nf_ok (a:List Identity) (b:List Identity) (v:Bool): evFun (mkCxI Tryz.prog S tab_r20Same 0 false sum_fIdx) 4 40 [.sl 88 (a:List (El 88)) false, .sl 88 (b:List (El 88)) false] [] (fun r' H'=>Gives r' H' (r21SameIds.res v) (r21SameIds.news v))= r21SameIds.nf a b v:=by kernel_rfl
theorem r21SameIds.key (a:List Identity) (b:List Identity) (v:Bool) (hv:v=r21SameIds a b): r21SameIds.nf a b v:=by
 unfold r21SameIds at hv
 unfold r21SameIds.nf
 intro hlen
 intro hlen
 revert hv;refine by_cond2 (fun hb hv=>?_) (fun hb hv=>?_)
 ·subst hv;exact ⟨rfl,rfl⟩
 ·exact r21SameIds.lp a b v _ _ hv (by unfold r21SameIds.rng;(try clear hv);(try clear q1 q2);(try clear hk);((try simp only [bne_eq_false_iff_eq] at *);omega)) _ (by kernel_rfl) (by kernel_rfl)
def r21SameIds.ct:Ct El:=ctOf r21SameIds.dec (fun _=>[]) (fun x=>r21SameIds.res (r21SameIds x.1 x.2)) (fun x=>r21SameIds.news (r21SameIds x.1 x.2))
theorem r21SameIds.ok:CtOk (mkCx Tryz.prog S [] 0) 40 r21SameIds.ct:=ct_mk (C:=(mkCxI Tryz.prog S tab_r20Same 0 false sum_fIdx)) (mkCxI_ok sigOk mixed tab_r20Same_ok 0 false sum_fIdx_ok) r21SameIds.dec_ok (fun x=>rfl) 4 (fun x _=>(r21SameIds.nf_ok x.1 x.2 _).mpr (r21SameIds.key x.1 x.2 _ rfl))
def tab_r21SameIds:List (FuncId×Ct El):= (40,r21SameIds.ct):: tab_r20Same
theorem tab_r21SameIds_ok:TabOk Tryz.prog S tab_r21SameIds:=⟨r21SameIds.ok,by kernel_rfl,tab_r20Same_ok⟩
end Go.Aw.W
