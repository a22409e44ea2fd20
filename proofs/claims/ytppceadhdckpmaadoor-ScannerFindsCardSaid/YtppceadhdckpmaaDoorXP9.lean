/- What the scanner hears of an advertiser. -/
import Derived.Test.YtppceadhdckpmaaDoorXP5
import Derived.Test.YtppceadhdckpmaaDoorXW44
set_option linter.unusedVariables false
set_option maxRecDepth 8000
namespace Go.Aw.W
open Go Go.Aw Go.Proofs
attribute [local irreducible] pFind r9Find pDerive accHas scEntry pCheck
theorem u64_of {n:Int} (h:IntKind.has .u64 n): U64 n:=by
 have:0≤n∧n≤18446744073709551615:=by simpa [IntKind.has,IntKind.min,IntKind.max,IntKind.bits,IntKind.signed] using h
 unfold U64;omega
theorem r2_refl (b:List Int): r2Same b b=true:=by unfold r2Same strEq;simp
theorem chk_R (p:AdvParams) (Z:Int) (h:cond (bif decide (p.Interval < (32:Int)) then true else decide ((16384:Int) < p.Interval)) (5:Int) (cond (pCheck (advPDU p) != (0:Int)) (pCheck (advPDU p)) Z)= 0): (32≤p.Interval∧p.Interval≤16384)∧pCheck (advPDU p)= 0:=by
 by_cases h0:p.Interval < 32
 ·rw [decide_eq_true h0] at h;exact absurd h (show ¬((5:Int)= 0) by decide)
 by_cases h1:16384 < p.Interval
 ·rw [decide_eq_false h0,decide_eq_true h1] at h;exact absurd h (show ¬((5:Int)= 0) by decide)
 rw [decide_eq_false h0,decide_eq_false h1,cond_false,cond_false] at h
 refine ⟨⟨by omega,by omega⟩, ?_⟩
 by_cases h2:pCheck (advPDU p)= 0
 ·exact h2
 ·rw [show (pCheck (advPDU p) != 0)= true by rw [bne_iff_ne];exact h2,cond_true] at h
  exact h
theorem check_ok (p:AdvParams) (h:advCheck p=0): (p.Kind=0∨p.Kind=1∨p.Kind=2∨p.Kind=6)∧(32≤p.Interval∧p.Interval≤16384)∧pCheck (advPDU p)= 0:=by
 unfold advCheck at h
 cases h0:p.Kind==(0:Int)
 ·rw [h0,cond_false] at h
  cases h1:p.Kind==(1:Int)
  ·rw [h1,cond_false] at h
   cases h2:p.Kind==(2:Int)
   ·rw [h2,cond_false] at h
    cases h6:p.Kind==(6:Int)
    ·rw [h6,cond_false] at h
     exact absurd h (show ¬((12:Int)= 0) by decide)
    ·rw [h6,cond_true] at h
     exact ⟨.inr (.inr (.inr (beq_iff_eq.1 h6))),chk_R p _ h⟩
   ·rw [h2,cond_true] at h
    exact ⟨.inr (.inr (.inl (beq_iff_eq.1 h2))),chk_R p _ h⟩
  ·rw [h1,cond_true] at h
   exact ⟨.inr (.inl (beq_iff_eq.1 h1)),chk_R p _ h⟩
 ·rw [h0,cond_true] at h
  exact ⟨.inl (beq_iff_eq.1 h0),chk_R p _ h⟩
theorem adv_start (p:AdvParams) (t:Int): advStart p t=cond (advCheck p != 0) (Advertiser.zero,advCheck p) (⟨p,true,0,advMoment t⟩,0):= by
 unfold advStart;simp only [advOwn_eq]
theorem adv_moment (t:Int) (h0:0≤t) (h1:t≤4398046511104): advMoment t=t:=by
 unfold advMoment minI maxI
 split <;> split <;> omega
theorem sc_moment (t:Int) (h0:0≤t) (h1:t≤4398046511104): scMoment t=t:=by
 unfold scMoment minI maxI
 split <;> split <;> omega
theorem adv_delay (seed event:Int) (hs:U64 seed): 0≤advDelay seed event∧advDelay seed event≤9999:=by
 unfold advDelay
 have hd:U64 (pDerive seed {data:=#[(100:UInt8),(101:UInt8),(108:UInt8),(97:UInt8),(121:UInt8)]: ByteArray} [IntKind.wrap IntKind.u64 event]):= by
  rw [derive_eq seed _ _ hs (by decide) (by simp) (by
   intro v hv
   rw [List.mem_singleton] at hv
   rw [hv]
   have:=wu64s event
   exact ⟨by omega,by omega⟩)]
  exact derive_range _ _ _
 generalize pDerive seed {data:=#[(100:UInt8),(101:UInt8),(108:UInt8),(97:UInt8),(121:UInt8)]: ByteArray} [IntKind.wrap IntKind.u64 event]= x at hd ⊢
 have h0:(0:Int)≤x:=hd.1
 rw [Int.tmod_eq_emod_of_nonneg h0,wi64 _ (by omega) (by omega)]
 omega
def sendP (p:AdvParams): AdvPDU:=⟨p.Kind,p.Own,p.Target,p.Data,ConnParams.zero⟩
theorem adv_fire (p:AdvParams) (ev nx:Int) (hs:U64 p.Seed) (h0:0≤nx) (h1:nx≤2199023255552) (hi:32≤p.Interval∧p.Interval≤16384):
  advFire ⟨p,true,ev,nx⟩ nx=(⟨p,true,IntKind.wrap .i64 (ev+1),nx+p.Interval*625+advDelay p.Seed ev⟩,[⟨37,nx,sendP p⟩,⟨38,nx+1000,sendP p⟩,⟨39,nx+2000,sendP p⟩]):= by
 have hm:=adv_moment nx h0 (by omega)
 have hd:=adv_delay p.Seed ev hs
 have e:advFire ⟨p,true,ev,nx⟩ nx=(⟨p,true,IntKind.wrap .i64 (ev+1),IntKind.wrap .i64 (IntKind.wrap .i64 (nx+IntKind.wrap .i64 (p.Interval*625))+ advDelay p.Seed ev)⟩,[⟨37,IntKind.wrap .i64 (nx+0),sendP p⟩,⟨38,IntKind.wrap .i64 (nx+1000),sendP p⟩,⟨39,IntKind.wrap .i64 (nx+2000),sendP p⟩]):= by
  unfold advFire
  simp only [advOwn_eq,hm,Bool.not_true,cond_false,Int.lt_irrefl,decide_false,advPDU_eq]
  kernel_rfl
 rw [e,wi64 (p.Interval*625) (by omega) (by omega),wi64 (nx+p.Interval*625) (by omega) (by omega),wi64 (nx+p.Interval*625+advDelay p.Seed ev) (by omega) (by omega),wi64 (nx+0) (by omega) (by omega),wi64 (nx+1000) (by omega) (by omega),wi64 (nx+2000) (by omega) (by omega),Int.add_zero]
def FI (P:ScanParams) (u:Scanner): Prop:=u.Params=P∧u.On=true∧u.Start=0
theorem find_chan {P:ScanParams} {u:Scanner} (h:FI P u) (hw:P.Window=P.Interval) (hi:4≤P.Interval∧P.Interval≤16384) (t:Int) (h0:0≤t) (h1:t≤2199023257552): ∃c,scChannel u t=(c,true)∧37≤c∧c≤39:=by
 obtain ⟨a1,a2,a3⟩:= h
 unfold scChannel
 rw [a1,a2,a3,hw,sc_moment t h0 (by omega),wi64 (t - 0) (by omega) (by omega),wi64 (P.Interval*625) (by omega) (by omega),decide_eq_false (show ¬t - 0 < 0 by omega),decide_eq_false (show ¬P.Interval*625 < 1 by omega)]
 have e1:Int.tmod (t - 0) (P.Interval*625)= (t - 0) % (P.Interval*625):= Int.tmod_eq_emod_of_nonneg (by omega)
 have e2:=Int.emod_lt_of_pos (t - 0) (show 0 < P.Interval*625 by omega)
 have e3:=Int.emod_nonneg (t - 0) (show P.Interval*625≠0 by omega)
 rw [e1,decide_eq_false (show ¬P.Interval*625≤(t - 0) % (P.Interval*625) by omega)]
 have e4:Int.tdiv (t - 0) (P.Interval*625)= (t - 0) / (P.Interval*625):= Int.tdiv_eq_ediv_of_nonneg (by omega)
 have e5:0≤(t - 0) / (P.Interval*625):= Int.ediv_nonneg (by omega) (by omega)
 have e6:(t - 0) / (P.Interval*625)≤t - 0:=Int.ediv_le_self _ (by omega)
 rw [e4,wi64 ((t - 0) / (P.Interval*625)) (by omega) (by omega)]
 generalize (t - 0) / (P.Interval*625)= d at e5 e6 ⊢
 have e7:Int.tmod d 3=d % 3:=Int.tmod_eq_emod_of_nonneg e5
 rw [e7,wi64 (37+d % 3) (by omega) (by omega)]
 exact ⟨37+d % 3,rfl,by omega,by omega⟩
theorem find_fin {P:ScanParams} {u:Scanner} (h:FI P u) (p:AdvPDU) (c t:Int) (l:List Report): FI P (hea.fin u p c t l).1∧(hea.fin u p c t l).2.1=l:=by
 unfold hea.fin
 cases hea.no u p <;> cases (IntKind.wrap IntKind.i64 (u.Count - 1) != 0) <;> exact ⟨h,rfl⟩
theorem find_hear {P:ScanParams} {u:Scanner} (h:FI P u) (hp:P.Policy=0) (hu:P.Unique=false) (p:AdvPDU) (c t:Int) (hc:37≤c∧c≤39) (hk:pCheck p=0) (hkd:p.Kind=0∨p.Kind=1∨p.Kind=2∨p.Kind=6):
  FI P (scHear u p c t).1∧(scHear u p c t).2.1=cond (bif p.Kind==1 then !(p.Target.Kind==P.Own.Kind && p.Target.Bits==P.Own.Bits) else false) [] [hea.rep u p t]:= by
 have hb:scIsFor u p = !(bif p.Kind==1 then !(p.Target.Kind==P.Own.Kind && p.Target.Bits==P.Own.Bits) else false):= by
  unfold scIsFor
  rw [hk,h.1]
  rcases hkd with e | e | e | e <;> rw [e]
  ·rfl
  ·show (p.Target.Kind==P.Own.Kind && p.Target.Bits==P.Own.Bits)= !(!(p.Target.Kind==P.Own.Kind && p.Target.Bits==P.Own.Bits))
   rw [Bool.not_not]
  ·rfl
  ·rfl
 have hd:hea.deaf u p c=(bif p.Kind==1 then !(p.Target.Kind==P.Own.Kind && p.Target.Bits==P.Own.Bits) else false):= by
  unfold hea.deaf
  rw [h.2.1,decide_eq_false (show ¬c < 37 by omega),decide_eq_false (show ¬39 < c by omega),hb]
  show (!(!_))= _
  rw [Bool.not_not]
 unfold scHear
 rw [hd]
 cases (bif p.Kind==1 then !(p.Target.Kind==P.Own.Kind && p.Target.Bits==P.Own.Bits) else false)
 ·rw [cond_false,cond_false,show (p.Kind==4)= false by rcases hkd with e | e | e | e <;> rw [e] <;> rfl,cond_false]
  unfold hea.mid
  have ho:hea.out u p=false:=by
   unfold hea.out
   rw [h.1,hp];rfl
  rw [ho,cond_false,h.1,hu,cond_false]
  exact find_fin h p c t _
 ·exact ⟨h,rfl⟩
theorem find_start (p:ScanParams) (h:(scStart p 7 0).2=0): FI p (scStart p 7 0).1∧4≤p.Interval∧p.Interval≤16384:=by
 unfold scStart at h ⊢
 by_cases h0:p.Interval < 4
 ·rw [decide_eq_true h0] at h;exact absurd h (show ¬((5:Int)= 0) by decide)
 by_cases h1:16384 < p.Interval
 ·rw [decide_eq_false h0,decide_eq_true h1] at h;exact absurd h (show ¬((5:Int)= 0) by decide)
 refine ⟨?_,by omega,by omega⟩
 have hc : ∀(b:Bool) (X Y:Scanner×Int),(X.2=0→FI p X.1)→(Y.2=0→FI p Y.1)→(cond b X Y).2=0→FI p (cond b X Y).1:=by
  intro b X Y hX hY
  cases b
  ·exact hY
  ·exact hX
 revert h
 refine hc _ _ _ (fun h=>absurd h (show ¬((5:Int)= 0) by decide)) ?_
 refine hc _ _ _ (fun h=>absurd h (show ¬((11:Int)= 0) by decide)) ?_
 refine hc _ _ _ (fun h=>absurd h (show ¬((5:Int)= 0) by decide)) ?_
 refine hc _ _ _ (fun h=>absurd h (show ¬((4:Int)= 0) by decide)) ?_
 by_cases ha:aCheck p.Own=0
 ·rw [ha]
  intro _
  rw [scOwn_eq]
  exact ⟨rfl,rfl,rfl⟩
 ·have hb:(aCheck p.Own != 0)= true:=by simp [ha]
  rw [hb]
  intro h
  exact absurd h ha
end Go.Aw.W
