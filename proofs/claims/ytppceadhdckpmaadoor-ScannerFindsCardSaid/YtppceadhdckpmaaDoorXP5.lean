/- What the scanner keeps from call to call. -/
import Derived.Test.YtppceadhdckpmaaDoorXMix
import Derived.Test.YtppceadhdckpmaaDoorXOp
import Derived.Test.YtppceadhdckpmaaDoorXAddrA
import Derived.Test.YtppceadhdckpmaaDoorXW26
set_option linter.unusedVariables false
set_option maxRecDepth 8000
namespace Go.Aw.W
open Go Go.Aw Go.Proofs
attribute [local irreducible] pFind r9Find scEntry pDerive pCheck accHas
def Up (x:Int): Prop:=x=1∨x=2∨x=4∨x=8∨x=16∨x=32∨x=64∨x=128∨x=256
theorem Up.range {x:Int} (h:Up x): 1≤x∧x≤256:=by unfold Up at h;omega
theorem Up.half {x:Int} (h:Up x): Up (maxI (IntKind.wrap .i64 (Int.tdiv x 2)) 1):= by
 unfold Up at h
 rcases h with rfl | rfl | rfl | rfl | rfl | rfl | rfl | rfl | rfl <;> (unfold Up;decide)
theorem Up.twice {x:Int} (h:Up x): Up (minI (IntKind.wrap .i64 (2*x)) 256):= by
 unfold Up at h
 rcases h with rfl | rfl | rfl | rfl | rfl | rfl | rfl | rfl | rfl <;> (unfold Up;decide)
theorem Up.divides {x:Int} (h:Up x): Int.tmod 256 x=0:=by
 unfold Up at h
 rcases h with rfl | rfl | rfl | rfl | rfl | rfl | rfl | rfl | rfl <;> decide
theorem maxI_one {x:Int} (h:1≤x): maxI x 1=x:=by unfold maxI;split <;> omega
theorem cf22 {α:Type} {b:Bool} {x y z:α} (h:b=false) (h2:y=z): cond b x y=z:=by rw [h];exact h2
theorem z1:(0:Int)≤1:=by decide
theorem bk_seed {k:Int} (hk:U64 k): U64 (pDerive k bkof []):= by
 rw [derive_eq k bkof [] hk (by decide) (by decide) (by simp)]
 exact derive_range _ _ _
theorem bk_count {U d:Int} (hU:Up U) (hd:U64 d): 1≤IntKind.wrap .i64 (1+IntKind.wrap .i64 (Int.tmod d (IntKind.wrap .u64 (maxI U 1))))∧IntKind.wrap .i64 (1+IntKind.wrap .i64 (Int.tmod d (IntKind.wrap .u64 (maxI U 1))))≤U:=by
 have hr:=hU.range
 have h0:(0:Int)≤d:=hd.1
 rw [maxI_one hr.1,wu64 U (by omega) (by omega),Int.tmod_eq_emod_of_nonneg h0]
 have h1:=Int.emod_nonneg d (show U≠0 by omega)
 have h2:=Int.emod_lt_of_pos d (show 0 < U by omega)
 rw [wi64 (d % U) (by omega) (by omega),wi64 (1+d % U) (by omega) (by omega)]
 omega
theorem addr_zero (a:Address): (a.Kind==0 && a.Bits==0)= true ↔ a=⟨0,0⟩:= by
 constructor
 ·intro h
  rw [Bool.and_eq_true,beq_iff_eq,beq_iff_eq] at h
  obtain ⟨k,b⟩:= a
  obtain ⟨h1,h2⟩:= h
  have h1:k=0:=h1
  have h2:b=0:=h2
  rw [h1,h2]
 ·intro h;rw [h];rfl
theorem aCheck_kind (a:Address) (h:aCheck a=0): 0 < a.Kind:=by
 unfold aCheck at h
 by_cases hk:a.Kind≤0
 ·rw [decide_eq_true hk,cond_true,cond_true] at h;exact absurd h (by decide)
 ·omega
theorem pCheck_sender (p:AdvPDU) (h:pCheck p=0): 0 < p.Sender.Kind:=by
 unfold pCheck at h
 cases h1:(aForm p.Kind).known
 ·rw [h1] at h;simp only [Bool.not_false,cond_true] at h;exact absurd h (by decide)
 ·rw [h1] at h
  by_cases h2:aCheck p.Sender=0
  ·exact aCheck_kind _ h2
  ·have h3:(aCheck p.Sender != 0)= true:=by simp [h2]
   rw [h3] at h
   simp only [Bool.not_true,cond_false,cond_true] at h
   exact absurd h h2
theorem isFor_check {s:Scanner} {p:AdvPDU} (h:scIsFor s p=true): pCheck p=0:=by
 unfold scIsFor at h
 by_cases h1:pCheck p=0
 ·exact h1
 ·have:(pCheck p != 0)= true:=by simp [h1]
  rw [this] at h;cases h
theorem isFor_wait {s:Scanner} {p:AdvPDU} (h:scIsFor s p=true) (hk:p.Kind=4): s.Wait.Kind=p.Sender.Kind:=by
 have h1:=isFor_check h
 unfold scIsFor at h
 rw [h1,hk] at h
 have h:(p.Sender.Kind==s.Wait.Kind && p.Sender.Bits==s.Wait.Bits)= true:=h
 rw [Bool.and_eq_true,beq_iff_eq] at h
 exact h.1.symm
theorem no_false {u:Scanner} {p:AdvPDU} (h:hea.no u p=false): u.Params.Active=true∧u.Wait=⟨0,0⟩∧aScan p.Kind=true:=by
 unfold hea.no at h
 cases ha:u.Params.Active
 ·rw [ha] at h;cases h
 cases hw:(u.Wait.Kind==0 && u.Wait.Bits==0)
 ·rw [ha,hw] at h;cases h
 cases hs:aScan p.Kind
 ·rw [ha,hw,hs] at h;cases h
 exact ⟨rfl,(addr_zero _).1 hw,rfl⟩
def HI (P:ScanParams) (u:Scanner): Prop:=u.Params=P∧u.On=true∧Up u.Upper∧(0≤u.Count∧u.Count≤u.Upper)∧(u.Count=0 ↔ u.Wait≠⟨0,0⟩)∧((0≤u.Fails∧u.Fails≤1)∧0≤u.Wins∧u.Wins≤1)∧U64 u.Seed
def Sends (P:ScanParams) (u:Scanner) (p:AdvPDU) (c t:Int) (r:HearR): Prop:=r.2.2=[]∨(P.Active=true∧u.Wait=⟨0,0⟩∧aScan p.Kind=true∧r.2.2=[hea.req u p c t]∧r.1.Wait=p.Sender)
def Reps (P:ScanParams) (u:Scanner) (p:AdvPDU) (t:Int) (r:HearR): Prop:=(r.2.1=[]∧r.1.Seen=u.Seen)∨(r.2.1=[hea.rep u p t]∧(P.Unique=false→r.1.Seen=u.Seen)∧(P.Unique=true→u.Seen.any (rep.hit u p)= false∧(u.Seen.length < 64→r.1.Seen=u.Seen ++ [scEntry u p]))∧r.1.Seen.length≤u.Seen.length+1)
theorem sender_ne {p:AdvPDU} (hk:0 < p.Sender.Kind): p.Sender≠⟨0,0⟩:= by
 intro e;rw [e] at hk;exact absurd hk (by decide)
theorem fin_keep {P:ScanParams} {u:Scanner} (h:HI P u) (p:AdvPDU) (c t:Int) (l:List Report) (hk:0 < p.Sender.Kind):
  HI P (hea.fin u p c t l).1∧(hea.fin u p c t l).1.Seen=u.Seen∧(hea.fin u p c t l).2.1=l∧Sends P u p c t (hea.fin u p c t l):= by
 obtain ⟨h1,h2,h3,h4,h5,h6,h7⟩:= h
 unfold hea.fin
 cases hn:hea.no u p
 ·have ha:=no_false hn
  have hr:=h3.range
  have hc:1≤u.Count:=by
   rcases Int.lt_or_le 0 u.Count with h | h
   ·omega
   ·exact absurd ha.2.1 (h5.1 (by omega))
  have hw:IntKind.wrap IntKind.i64 (u.Count - 1)= u.Count - 1:=wi64 _ (by omega) (by omega)
  rw [cond_false,hw]
  by_cases hz:u.Count - 1=0
  ·rw [show ((u.Count - 1:Int) != 0)= false by rw [hz];rfl,cond_false]
   refine ⟨⟨h1,h2,h3, ?_, ?_,h6,h7⟩,rfl,rfl, .inr ⟨h1 ▸ ha.1,ha.2.1,ha.2.2,rfl,rfl⟩⟩
   ·show 0≤IntKind.wrap IntKind.i64 (u.Count - 1)∧IntKind.wrap IntKind.i64 (u.Count - 1)≤u.Upper
    rw [hw];omega
   ·show IntKind.wrap IntKind.i64 (u.Count - 1)= 0 ↔ p.Sender≠⟨0,0⟩
    rw [hw]
    exact ⟨fun _=>sender_ne hk,fun _=>hz⟩
  ·rw [show ((u.Count - 1:Int) != 0)= true by rw [bne_iff_ne];exact hz,cond_true]
   refine ⟨⟨h1,h2,h3, ?_, ?_,h6,h7⟩,rfl,rfl, .inl rfl⟩
   ·show 0≤IntKind.wrap IntKind.i64 (u.Count - 1)∧IntKind.wrap IntKind.i64 (u.Count - 1)≤u.Upper
    rw [hw];omega
   ·show IntKind.wrap IntKind.i64 (u.Count - 1)= 0 ↔ u.Wait≠⟨0,0⟩
    rw [hw]
    exact ⟨fun e=>absurd e hz,fun e=>absurd ha.2.1 e⟩
 ·rw [cond_true]
  exact ⟨⟨h1,h2,h3,h4,h5,h6,h7⟩,rfl,rfl, .inl rfl⟩
theorem mid_keep {P:ScanParams} {u:Scanner} (h:HI P u) (p:AdvPDU) (c t:Int) (hk:0 < p.Sender.Kind):
  HI P (hea.mid u p c t).1∧Sends P u p c t (hea.mid u p c t)∧Reps P u p t (hea.mid u p c t):= by
 have hP:=h.1
 unfold hea.mid
 cases ho:hea.out u p
 ·rw [cond_false]
  cases hu:u.Params.Unique
  ·rw [cond_false]
   obtain ⟨a1,a2,a3,a4⟩:= fin_keep h p c t [hea.rep u p t] hk
   exact ⟨a1,a4, .inr ⟨a3,fun _=>a2,(fun e=>by rw [←hP,hu] at e;cases e),by rw [a2];omega⟩⟩
  ·rw [cond_true]
   cases hh:List.any (clA u.Seen) (rep.hit u p)
   ·rw [cond_false]
    by_cases hl:(64:Int)≤(↑(List.length (clA u.Seen)): Int)
    ·rw [decide_eq_true hl,cond_true]
     have h':HI P {u with Seen:=List.drop (Int.toNat 1) (clA u.Seen)++ [scEntry u p]}:= h
     obtain ⟨a1,a2,a3,a4⟩:= fin_keep h' p c t [hea.rep u p t] hk
     refine ⟨a1,a4, .inr ⟨a3,(fun e=>by rw [←hP,hu] at e;cases e),fun _=>⟨hh,fun hs=>?_⟩, ?_⟩⟩
     ·exfalso
      unfold clA at hl
      omega
     ·rw [a2]
      show (List.drop (Int.toNat 1) u.Seen ++ [scEntry u p]).length≤_
      simp only [List.length_append,List.length_drop,List.length_cons,List.length_nil]
      omega
    ·rw [decide_eq_false hl,cond_false]
     have h':HI P {u with Seen:=clA u.Seen ++ [scEntry u p]}:= h
     obtain ⟨a1,a2,a3,a4⟩:= fin_keep h' p c t [hea.rep u p t] hk
     refine ⟨a1,a4, .inr ⟨a3,(fun e=>by rw [←hP,hu] at e;cases e),fun _=>⟨hh,fun hs=>a2⟩, ?_⟩⟩
     rw [a2]
     show (u.Seen ++ [scEntry u p]).length≤_
     simp
   ·rw [cond_true]
    obtain ⟨a1,a2,a3,a4⟩:= fin_keep h p c t [] hk
    exact ⟨a1,a4, .inl ⟨a3,a2⟩⟩
 ·rw [cond_true]
  exact ⟨h, .inl rfl, .inl ⟨rfl,rfl⟩⟩
theorem bk_keep {P:ScanParams} {u:Scanner} (h1:u.Params=P) (h2:u.On=true) (h3:Up u.Upper) (h4:u.Wait=⟨0,0⟩) (h6:(0≤u.Fails∧u.Fails≤1)∧0≤u.Wins∧u.Wins≤1) (h7:U64 u.Seed): HI P (hea.bk u):= by
 have hb:=bk_count h3 (bk_seed h7)
 refine ⟨h1,h2,h3,⟨Int.le_trans (by decide) hb.1,hb.2⟩,⟨fun e=>?_,fun e=>absurd h4 e⟩,h6,bk_seed h7⟩
 exfalso
 have e:IntKind.wrap .i64 (1+IntKind.wrap .i64 (Int.tmod (pDerive u.Seed bkof []) (IntKind.wrap .u64 (maxI u.Upper 1))))= 0:=e
 rw [e] at hb
 omega
theorem hear_keep {P:ScanParams} {s:Scanner} (h:HI P s) (p:AdvPDU) (c t:Int):
  HI P (scHear s p c t).1∧Sends P s p c t (scHear s p c t)∧(scHear s p c t=(s,[],[])∨∃u,u.Params=s.Params∧u.Seen=s.Seen∧Reps P u p t (scHear s p c t)):= by
 unfold scHear
 cases hd:hea.deaf s p c
 ·have hf:scIsFor s p=true:=by
   unfold hea.deaf at hd
   cases hs:scIsFor s p
   ·rw [hs] at hd
    revert hd
    cases s.On <;> cases decide (c < 37) <;> cases decide (39 < c) <;> intro hd <;> cases hd
   ·rfl
  have hk:=pCheck_sender p (isFor_check hf)
  rw [cond_false]
  by_cases h4:p.Kind=4
  ·have hsc:aScan p.Kind=false:=by rw [h4];rfl
   rw [show (p.Kind==4)= true by rw [h4];rfl,cond_true]
   obtain ⟨h1,h2,h3,_,_,h6,h7⟩:= h
   have main : ∀u:Scanner,HI P u→u.Params=s.Params→u.Seen=s.Seen→HI P (hea.mid u p c t).1∧Sends P s p c t (hea.mid u p c t)∧(hea.mid u p c t=(s,[],[])∨∃w,w.Params=s.Params∧w.Seen=s.Seen∧Reps P w p t (hea.mid u p c t)):= by
    intro u hu e1 e2
    obtain ⟨a1,a2,a3⟩:= mid_keep hu p c t hk
    refine ⟨a1, ?_, .inr ⟨u,e1,e2,a3⟩⟩
    rcases a2 with a2 | a2
    ·exact .inl a2
    ·have:=a2.2.2.1
     rw [hsc] at this;cases this
   cases hw:IntKind.wrap IntKind.i64 (s.Wins+1)== 2
   ·rw [cond_false]
    refine main (hea.one s) (bk_keep (u:={s with Fails:=0,Wins:=IntKind.wrap .i64 (s.Wins+1),Wait:=⟨0,0⟩}) h1 h2 h3 rfl ⟨⟨Int.le_refl _,z1⟩, ?_⟩ h7) rfl rfl
    show 0≤IntKind.wrap IntKind.i64 (s.Wins+1)∧IntKind.wrap IntKind.i64 (s.Wins+1)≤1
    rw [beq_eq_false_iff_ne] at hw
    rw [wi64 (s.Wins+1) (by omega) (by omega)] at hw ⊢
    omega
   ·rw [cond_true]
    exact main (hea.two s) (bk_keep (u:={s with Upper:=maxI (IntKind.wrap .i64 (Int.tdiv s.Upper 2)) 1,Fails:=0,Wins:=0,Wait:=⟨0,0⟩}) h1 h2 h3.half rfl ⟨⟨Int.le_refl _,z1⟩,Int.le_refl _,z1⟩ h7) rfl rfl
  ·rw [show (p.Kind==4)= false by rw [beq_eq_false_iff_ne];exact h4,cond_false]
   obtain ⟨a1,a2,a3⟩:= mid_keep h p c t hk
   exact ⟨a1,a2, .inr ⟨s,rfl,rfl,a3⟩⟩
 ·rw [cond_true]
  exact ⟨h, .inl rfl, .inl rfl⟩
theorem miss_form (s:Scanner): scMiss s=cond (bif !s.On then true else (s.Wait.Kind==0 && s.Wait.Bits==0)) s (cond (IntKind.wrap IntKind.i64 (s.Fails+1)== 2) (hea.bk {s with Upper:=minI (IntKind.wrap IntKind.i64 (2*s.Upper)) 256,Fails:=0,Wins:=0,Wait:=⟨0,0⟩}) (hea.bk {s with Fails:=IntKind.wrap IntKind.i64 (s.Fails+1),Wins:=0,Wait:=⟨0,0⟩})):= by
 unfold scMiss
 rw [scOwn_eq]
 rfl
theorem miss_keep {P:ScanParams} {s:Scanner} (h:HI P s): HI P (scMiss s)∧(scMiss s).Seen=s.Seen:=by
 obtain ⟨h1,h2,h3,h4,h5,h6,h7⟩:= h
 rw [miss_form]
 cases hw:(bif !s.On then true else (s.Wait.Kind==0 && s.Wait.Bits==0))
 ·rw [cond_false]
  cases hf:IntKind.wrap IntKind.i64 (s.Fails+1)== 2
  ·rw [cond_false]
   refine ⟨bk_keep (u:={s with Fails:=IntKind.wrap .i64 (s.Fails+1),Wins:=0,Wait:=⟨0,0⟩}) h1 h2 h3 rfl ⟨?_,Int.le_refl _,z1⟩ h7,rfl⟩
   show 0≤IntKind.wrap IntKind.i64 (s.Fails+1)∧IntKind.wrap IntKind.i64 (s.Fails+1)≤1
   rw [beq_eq_false_iff_ne] at hf
   rw [wi64 (s.Fails+1) (by omega) (by omega)] at hf ⊢
   omega
  ·rw [cond_true]
   exact ⟨bk_keep (u:={s with Upper:=minI (IntKind.wrap .i64 (2*s.Upper)) 256,Fails:=0,Wins:=0,Wait:=⟨0,0⟩}) h1 h2 h3.twice rfl ⟨⟨Int.le_refl _,z1⟩,Int.le_refl _,z1⟩ h7,rfl⟩
 ·rw [cond_true]
  exact ⟨⟨h1,h2,h3,h4,h5,h6,h7⟩,rfl⟩
end Go.Aw.W
