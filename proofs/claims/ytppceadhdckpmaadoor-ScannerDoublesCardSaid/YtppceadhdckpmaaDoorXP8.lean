/- The law of the doubled limits of chapter 22. -/
import Derived.Test.YtppceadhdckpmaaDoorXP6
import Derived.Test.YtppceadhdckpmaaDoorXW29
set_option linter.unusedVariables false
set_option maxRecDepth 8000
namespace Go.Aw.W
open Go Go.Aw Go.Proofs
attribute [local irreducible] pFind r9Find pDerive accHas scEntry
def PD0:ScanParams:={Interval:=16,Window:=16,Active:=true,Policy:=0,Accept:=[],Identities:=[],Own:={Kind:=1,Bits:=5},Unique:=false}
def pd0:AdvPDU:={Kind:=6,Sender:={Kind:=1,Bits:=6},Target:={Kind:=0,Bits:=0},Data:=[1,5],Conn:={Access:=0,Init:=0,Update:={WinSize:=0,WinOffset:=0,Interval:=0,Latency:=0,Timeout:=0},Map:=0,Hop:=0,PPM:=0,Algorithm:=0}}
theorem dbl_for (u:Scanner): scIsFor u pd0=true:=by
 have h:pCheck pd0=0:=by decide +kernel
 unfold scIsFor
 rw [h]
 rfl
theorem dbl_hear {u:Scanner} (h:HI PD0 u) (hw:u.Wait=⟨0,0⟩) (t:Int): scHear u pd0 37 t=cond (IntKind.wrap IntKind.i64 (u.Count - 1) != 0) (hea.less u,[hea.rep u pd0 t],[]) ({hea.less u with Wait:=pd0.Sender},[hea.rep u pd0 t],[hea.req u pd0 37 t]):= by
 have h1:hea.deaf u pd0 37=false:=by
  unfold hea.deaf
  rw [h.2.1,dbl_for]
  rfl
 have h2:hea.out u pd0=false:=by
  unfold hea.out
  rw [h.1]
  rfl
 have h3:u.Params.Unique=false:=by rw [h.1];rfl
 have h4:hea.no u pd0=false:=by
  unfold hea.no
  rw [h.1,hw]
  rfl
 unfold scHear
 rw [h1,cond_false,show (pd0.Kind==4)= false from rfl,cond_false]
 unfold hea.mid
 rw [h2,cond_false,h3,cond_false]
 unfold hea.fin
 rw [h4,cond_false]
theorem dbl_in (seed i now upper:Int) (u:Scanner) (U f:Int): ∀(n:Nat) (k now1:Int) (u1:Scanner),HI PD0 u1→u1.Wait=⟨0,0⟩→u1.Upper=U→u1.Fails=f→0≤k→k+u1.Count≤256→(256 - k).toNat < n→
  (scannerDoubles.igo seed i now upper u n k false now1 u1).2.1=true∧HI PD0 (scannerDoubles.igo seed i now upper u n k false now1 u1).2.2.2∧(scannerDoubles.igo seed i now upper u n k false now1 u1).2.2.2.Upper=U∧(scannerDoubles.igo seed i now upper u n k false now1 u1).2.2.2.Fails=f∧(scannerDoubles.igo seed i now upper u n k false now1 u1).2.2.2.Wait≠⟨0,0⟩
 | 0,k,now1,u1,h,hw,hU,hf,hk,hc,hn=>by omega
 | n+1,k,now1,u1,h,hw,hU,hf,hk,hc,hn=>by
  have hr:=h.2.2.1.range
  have hcc:=h.2.2.2.1
  have hc1:u1.Count≠0:=fun e=>h.2.2.2.2.1.1 e hw
  have hkeep:=(hear_keep h pd0 37 (IntKind.wrap IntKind.i64 (now1+1000))).1
  unfold scannerDoubles.igo
  rw [decide_eq_true (show k < 256 by omega)]
  show (cond true _ _:Int×Bool×Int×Scanner).2.1=true∧_
  rw [cond_true]
  have e:=dbl_hear h hw (IntKind.wrap IntKind.i64 (now1+1000))
  have wk:=wi64 (k+1) (by omega) (by omega)
  have wc:=wi64 (u1.Count - 1) (by omega) (by omega)
  rw [wk]
  show (scannerDoubles.igo seed i now upper u n (k+1) (decide ((0:Int) < (↑(List.length (scHear u1 pd0 37 (IntKind.wrap IntKind.i64 (now1+1000))).snd.snd): Int))) (IntKind.wrap IntKind.i64 (now1+1000)) (scHear u1 pd0 37 (IntKind.wrap IntKind.i64 (now1+1000))).fst).2.1=true∧HI PD0 (scannerDoubles.igo seed i now upper u n (k+1) (decide ((0:Int) < (↑(List.length (scHear u1 pd0 37 (IntKind.wrap IntKind.i64 (now1+1000))).snd.snd): Int))) (IntKind.wrap IntKind.i64 (now1+1000)) (scHear u1 pd0 37 (IntKind.wrap IntKind.i64 (now1+1000))).fst).2.2.2∧(scannerDoubles.igo seed i now upper u n (k+1) (decide ((0:Int) < (↑(List.length (scHear u1 pd0 37 (IntKind.wrap IntKind.i64 (now1+1000))).snd.snd): Int))) (IntKind.wrap IntKind.i64 (now1+1000)) (scHear u1 pd0 37 (IntKind.wrap IntKind.i64 (now1+1000))).fst).2.2.2.Upper=U∧(scannerDoubles.igo seed i now upper u n (k+1) (decide ((0:Int) < (↑(List.length (scHear u1 pd0 37 (IntKind.wrap IntKind.i64 (now1+1000))).snd.snd): Int))) (IntKind.wrap IntKind.i64 (now1+1000)) (scHear u1 pd0 37 (IntKind.wrap IntKind.i64 (now1+1000))).fst).2.2.2.Fails=f∧(scannerDoubles.igo seed i now upper u n (k+1) (decide ((0:Int) < (↑(List.length (scHear u1 pd0 37 (IntKind.wrap IntKind.i64 (now1+1000))).snd.snd): Int))) (IntKind.wrap IntKind.i64 (now1+1000)) (scHear u1 pd0 37 (IntKind.wrap IntKind.i64 (now1+1000))).fst).2.2.2.Wait≠⟨0,0⟩
  by_cases hz:u1.Count - 1=0
  ·have e2:scHear u1 pd0 37 (IntKind.wrap IntKind.i64 (now1+1000))= ({hea.less u1 with Wait:=pd0.Sender},[hea.rep u1 pd0 (IntKind.wrap IntKind.i64 (now1+1000))],[hea.req u1 pd0 37 (IntKind.wrap IntKind.i64 (now1+1000))]):= by
    rw [e,wc,hz];rfl
   rw [e2] at hkeep ⊢
   have n0 : ∀(n:Nat) (now1:Int) (w:Scanner),0 < n→scannerDoubles.igo seed i now upper u n (k+1) true now1 w=(k+1,true,now1,w):= by
    intro n now1 w hn
    cases n with
    | zero=>omega
    | succ n =>
     unfold scannerDoubles.igo
     cases decide (k+1 < 256) <;> rfl
   have e3:decide ((0:Int) < (↑(List.length [hea.req u1 pd0 37 (IntKind.wrap IntKind.i64 (now1+1000))]): Int))= true:=rfl
   dsimp only
   rw [e3,n0 n _ _ (by omega)]
   exact ⟨rfl,hkeep,hU,hf,fun e=>absurd (congrArg Address.Kind e) (show ¬((1:Int)= 0) by decide)⟩
  ·have e2:scHear u1 pd0 37 (IntKind.wrap IntKind.i64 (now1+1000))= (hea.less u1,[hea.rep u1 pd0 (IntKind.wrap IntKind.i64 (now1+1000))],[]):= by
    rw [e,wc,show (u1.Count - 1 != 0)= true by rw [bne_iff_ne];exact hz,cond_true]
   rw [e2] at hkeep ⊢
   have e4:(hea.less u1).Count=u1.Count - 1:=wc
   exact dbl_in seed i now upper u U f n (k+1) _ _ hkeep hw hU hf (by omega) (by rw [e4];omega) (by omega)
theorem dbl_miss {u:Scanner} (h:HI PD0 u) (hw:u.Wait≠⟨0,0⟩): HI PD0 (scMiss u)∧(scMiss u).Wait=⟨0,0⟩∧(1≤(scMiss u).Count∧(scMiss u).Count≤(scMiss u).Upper)∧((u.Fails=0∧(scMiss u).Upper=u.Upper∧(scMiss u).Fails=1)∨(u.Fails=1∧(scMiss u).Upper=minI (IntKind.wrap IntKind.i64 (2*u.Upper)) 256∧(scMiss u).Fails=0)):= by
 have hk:=(miss_keep h).1
 have main:(scMiss u).Wait=⟨0,0⟩∧((u.Fails=0∧(scMiss u).Upper=u.Upper∧(scMiss u).Fails=1)∨(u.Fails=1∧(scMiss u).Upper=minI (IntKind.wrap IntKind.i64 (2*u.Upper)) 256∧(scMiss u).Fails=0)):= by
  rw [miss_form]
  have hb:(bif !u.On then true else (u.Wait.Kind==0 && u.Wait.Bits==0))= false:=by
   rw [h.2.1]
   show (u.Wait.Kind==0 && u.Wait.Bits==0)= false
   rw [←Bool.not_eq_true,addr_zero];exact hw
  rw [hb,cond_false]
  have hf:=h.2.2.2.2.2.1.1
  rcases (show u.Fails=0∨u.Fails=1 by omega) with e | e
  ·rw [e]
   exact ⟨rfl, .inl ⟨rfl,rfl,rfl⟩⟩
  ·rw [e]
   exact ⟨rfl, .inr ⟨rfl,rfl,rfl⟩⟩
 have hc:=hk.2.2.2.1
 have hn:(scMiss u).Count≠0:=fun e=>hk.2.2.2.2.1.1 e main.1
 exact ⟨hk,main.1,⟨by omega,hc.2⟩,main.2⟩
theorem dbl_ok {U C:Int} (h:1≤C∧C≤U): (bif bif U != U then true else decide (C < (1:Int)) then true else decide (U < C))= false:=by
 rw [show (U != U)= false by simp,decide_eq_false (show ¬C < 1 by omega),decide_eq_false (show ¬U < C by omega)];rfl
theorem dbl_go (seed:Int): ∀(n:Nat) (i now upper:Int) (u:Scanner),HI PD0 u→u.Wait=⟨0,0⟩→u.Upper=upper→u.Fails=i % 2→0≤i→i≤20→(20 - i).toNat < n→scannerDoubles.go seed n i now upper u=true
 | 0,i,now,upper,u,h,hw,hU,hf,h0,h1,hn=>by omega
 | n+1,i,now,upper,u,h,hw,hU,hf,h0,h1,hn=>by
  unfold scannerDoubles.go
  by_cases hi:i < 20
  ·rw [decide_eq_true hi,cond_true,wi64 (i+(1:Int)) (by omega) (by omega)]
   have hc:=h.2.2.2.1
   have hr:=h.2.2.1.range
   obtain ⟨a1,a2,a3,a4,a5⟩:= dbl_in seed i now upper u upper (i % 2) 257 0 now u h hw hU hf (Int.le_refl _) (by omega) (by omega)
   generalize scannerDoubles.igo seed i now upper u 257 0 false now u=r at a1 a2 a3 a4 a5 ⊢
   obtain ⟨b1,b2,b3,b4⟩:= dbl_miss a2 a5
   rw [a1]
   refine cf22 rfl ?_
   rw [a3,a4] at b4
   have ht:Int.tmod i 2=i % 2:=Int.tmod_eq_emod_of_nonneg h0
   rw [ht]
   rcases b4 with ⟨c1,c2,c3⟩| ⟨c1,c2,c3⟩
   ·rw [c1]
    refine cf22 rfl ?_
    rw [c2] at b3
    have:=dbl_go seed n (i+1) r.2.2.1 upper (scMiss r.2.2.2) b1 b2 c2 (by rw [c3];omega) (by omega) (by omega) (by omega)
    refine cf22 ?_ this
    rw [c2]
    exact dbl_ok b3
   ·rw [c1]
    rw [show ((1:Int)== 1)= true from rfl,cond_true]
    rw [c2] at b3
    have:=dbl_go seed n (i+1) r.2.2.1 _ (scMiss r.2.2.2) b1 b2 c2 (by rw [c3];omega) (by omega) (by omega) (by omega)
    refine cf22 ?_ this
    rw [c2]
    exact dbl_ok b3
  ·rw [decide_eq_false hi,cond_false]
theorem scannerDoubles_true (seed:Int) (b0:IntKind.has .u64 seed): scannerDoubles seed=true:=by
 have hz:(scStart PD0 seed 0).2=0:=by
  unfold scStart
  rfl
 have hk:=start_keep PD0 seed 0 (has_u64 b0) hz
 have e:(scStart PD0 seed 0).1={Params:=PD0,On:=true,Start:=scMoment 0,Upper:=1,Count:=1,Fails:=0,Wins:=0,Wait:=⟨0,0⟩,Seen:=[],Seed:=seed}:= by
  unfold scStart
  rw [scOwn_eq]
  rfl
 unfold scannerDoubles
 exact dbl_go seed _ 0 0 1 _ hk.1 (congrArg Scanner.Wait e) (congrArg Scanner.Upper e) (congrArg Scanner.Fails e) (by omega) (by omega) (by omega)
end Go.Aw.W
