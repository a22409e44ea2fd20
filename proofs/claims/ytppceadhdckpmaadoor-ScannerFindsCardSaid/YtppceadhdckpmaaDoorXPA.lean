/- The law of what a scanner finds, chapter 22. -/
import Derived.Test.YtppceadhdckpmaaDoorXP9
import Derived.Test.YtppceadhdckpmaaDoorXW45
set_option linter.unusedVariables false
set_option maxRecDepth 8000
namespace Go.Aw.W
open Go Go.Aw Go.Proofs
attribute [local irreducible] pFind r9Find pDerive accHas scEntry pCheck scHear advFire scChannel advCheck
def AI (a:AdvParams) (B:Int) (ad:Advertiser): Prop:=ad.Params=a∧ad.On=true∧0≤ad.Next∧ad.Next≤B
theorem adv_fire2 {a:AdvParams} {B:Int} {ad:Advertiser} (h:AI a B ad) (hB:B≤1099511627776) (hs:U64 a.Seed) (hi:32≤a.Interval∧a.Interval≤16384):
  AI a (B+10249999) (advFire ad ad.Next).1∧(advFire ad ad.Next).2.length=3∧∀k:Int,0≤k→k < 3→∃ch t,List.getD (advFire ad ad.Next).2 (Int.toNat k) Send.zero=⟨ch,t,sendP a⟩∧0≤t∧t≤B+2000:=by
 obtain ⟨pp,on,ev,nx⟩:= ad
 obtain ⟨h1,h2,h3,h4⟩:= h
 dsimp only at h1 h2 h3 h4
 subst h1 h2
 have hf:=adv_fire pp ev nx hs h3 (by omega) hi
 have hd:=adv_delay pp.Seed ev hs
 dsimp only
 rw [hf]
 refine ⟨⟨rfl,rfl, ?_, ?_⟩,rfl,fun k k0 k3=>?_⟩
 ·show 0≤nx+pp.Interval*625+advDelay pp.Seed ev
  omega
 ·show nx+pp.Interval*625+advDelay pp.Seed ev≤_
  omega
 ·rcases (show k=0∨k=1∨k=2 by omega) with e | e | e <;> subst e
  ·exact ⟨37,nx,rfl,by omega,by omega⟩
  ·exact ⟨38,nx+1000,rfl,by omega,by omega⟩
  ·exact ⟨39,nx+2000,rfl,by omega,by omega⟩
def FQ (P:ScanParams) (r:Int×Scanner×Bool): Prop:=r.2.2=true∧FI P r.2.1
theorem cfQ {α:Type} {Q:α→Prop} {b:Bool} {x y:α} (h:b=false) (hy:Q y): Q (cond b x y):= by rw [h];exact hy
theorem ctQ {α:Type} {Q:α→Prop} {b:Bool} {x y:α} (h:b=true) (hx:Q x): Q (cond b x y):= by rw [h];exact hx
theorem find_in (p:ScanParams) (P:ScanParams) (hP:P={p with Window:=p.Interval,Policy:=0,Unique:=false}) (hI:4≤p.Interval∧p.Interval≤16384) (a:AdvParams) (hk:pCheck (sendP a)= 0) (hkd:a.Kind=0∨a.Kind=1∨a.Kind=2∨a.Kind=6) (events i:Int) (u:Scanner) (ad:Advertiser) (B:Int) (hB:B≤1099511627776)
  (hL : ∀k:Int,0≤k→k < 3→∃ch t,List.getD (advFire ad ad.Next).2 (Int.toNat k) Send.zero=⟨ch,t,sendP a⟩∧0≤t∧t≤B+2000): ∀(n:Nat) (k:Int) (v1:Scanner),FI P v1→0≤k→k≤3→(3 - k).toNat < n→FQ P (scannerFinds.igo p a events i u ad n k v1)
 | 0,k,v1,h,h0,h1,hn=>by omega
 | n+1,k,v1,h,h0,h1,hn=>by
  unfold scannerFinds.igo
  by_cases hk3:k < 3
  ·refine ctQ (decide_eq_true hk3) ?_
   obtain ⟨ch,t,e,t0,t1⟩:= hL k h0 hk3
   obtain ⟨c,hc,c0,c1⟩:= find_chan h (by rw [hP]) (by rw [hP];exact hI) t t0 (by omega)
   rw [e,wi64 (k+1) (by omega) (by omega)]
   dsimp only
   rw [hc]
   dsimp only
   refine cfQ ?_ ?_
   ·rw [decide_eq_false (show ¬c < 37 by omega),decide_eq_false (show ¬39 < c by omega)];rfl
   have ih:=fun v hv=>find_in p P hP hI a hk hkd events i u ad B hB hL n (k+1) v hv (by omega) (by omega) (by omega)
   cases hne:(c != ch)
   ·rw [cond_false]
    have hh:=find_hear h (by rw [hP]) (by rw [hP]) (sendP a) c (IntKind.wrap IntKind.i64 (t+300)) ⟨c0,c1⟩ hk hkd
    have hr:(scHear v1 (sendP a) c (IntKind.wrap IntKind.i64 (t+300))).2.1=cond (bif a.Kind==1 then !(a.Target.Kind==p.Own.Kind && a.Target.Bits==p.Own.Bits) else false) [] [hea.rep v1 (sendP a) (IntKind.wrap IntKind.i64 (t+300))]:= by
     rw [hh.2,hP];rfl
    cases hD:(bif a.Kind==(1:Int) then !(a.Target.Kind==p.Own.Kind && a.Target.Bits==p.Own.Bits) else false)
    ·rw [hD,cond_false] at hr
     rw [cond_false,hr]
     refine cfQ ?_ (ih _ hh.1)
     show (bif bif bif false then true else !(a.Own.Kind==a.Own.Kind && a.Own.Bits==a.Own.Bits) then true else a.Kind != a.Kind then true else !r2Same a.Data a.Data)= false
     rw [r2_refl]
     simp
    ·rw [hD,cond_true] at hr
     rw [cond_true,hr]
     exact cfQ rfl (ih _ hh.1)
   ·rw [cond_true]
    exact ih _ h
  ·refine cfQ (decide_eq_false hk3) ?_
   exact ⟨rfl,h⟩
theorem find_go (p:ScanParams) (P:ScanParams) (hP:P={p with Window:=p.Interval,Policy:=0,Unique:=false}) (hI:4≤p.Interval∧p.Interval≤16384) (a:AdvParams) (hs:U64 a.Seed) (hi:32≤a.Interval∧a.Interval≤16384) (hk:pCheck (sendP a)= 0) (hkd:a.Kind=0∨a.Kind=1∨a.Kind=2∨a.Kind=6) (events:Int) (hev:events≤20): ∀(n:Nat) (i:Int) (u:Scanner) (ad:Advertiser),FI P u→AI a (i*10249999) ad→0≤i→(events - i).toNat < n→scannerFinds.go p a events n i u ad=true
 | 0,i,u,ad,h,ha,h0,hn=>by omega
 | n+1,i,u,ad,h,ha,h0,hn=>by
  unfold scannerFinds.go
  by_cases hit:i < events
  ·rw [decide_eq_true hit,cond_true,wi64 (i+1) (by omega) (by omega)]
   obtain ⟨f1,f2,f3⟩:= adv_fire2 ha (by omega) hs hi
   have hq:=find_in p P hP hI a hk hkd events i u ad _ (by omega) f3 4 0 u h (Int.le_refl _) (by omega) (by omega)
   refine cf22 ?_ ?_
   ·rw [f2];rfl
   rw [hq.1,cond_true]
   refine find_go p P hP hI a hs hi hk hkd events hev n (i+1) _ _ hq.2 ?_ (by omega) (by omega)
   rw [show (i+1)* 10249999=i*10249999+10249999 by omega]
   exact f1
  ·rw [decide_eq_false hit,cond_false]
theorem scannerFinds_pre (p:ScanParams) (a:AdvParams) (events:Int) (b0:p.has) (b1:a.has) (b2:IntKind.has .i64 events): a.Data.length≤140737488355328∧a.Scan.length≤140737488355328:=by
 have h1:=b1.2.2.2.2.1.2
 have h2:=b1.2.2.2.2.2.1.2
 omega
theorem scannerFinds_true (p:ScanParams) (a:AdvParams) (events:Int) (b0:p.has) (b1:a.has) (b2:IntKind.has .i64 events): scannerFinds p a events=true:=by
 unfold scannerFinds
 cases hs:small22 {p with Window:=p.Interval,Policy:=0,Unique:=false}
 ·rfl
 by_cases h0:(100:Int) < (a.Accept.length:Int)
 ·rw [decide_eq_true h0];rfl
 by_cases h1:(100:Int) < (a.Identities.length:Int)
 ·rw [decide_eq_true h1,decide_eq_false h0];rfl
 by_cases h2:20 < events
 ·rw [decide_eq_true h2,decide_eq_false h1,decide_eq_false h0];rfl
 rw [decide_eq_false h0,decide_eq_false h1,decide_eq_false h2,own22_eq,adv_start]
 simp only [Bool.not_true,cond_false]
 by_cases hz:(scStart {p with Window:=p.Interval,Policy:=0,Unique:=false} 7 0).2=0
 ·rw [hz]
  by_cases hc:advCheck a=0
  ·rw [hc]
   have hok:=check_ok a hc
   rw [advPDU_eq] at hok
   have hst:=find_start {p with Window:=p.Interval,Policy:=0,Unique:=false} hz
   have hm:advMoment 0=0:=adv_moment 0 (Int.le_refl _) (by decide)
   exact find_go p _ rfl hst.2 a (u64_of b1.2.2.2.2.2.2.2.2.2) hok.2.1 hok.2.2 hok.1 events (by omega) _ 0 _ ⟨a,true,0,advMoment 0⟩ hst.1 ⟨rfl,rfl,by show 0≤advMoment 0;rw [hm];exact Int.le_refl _,by show advMoment 0≤_;rw [hm];decide⟩ (Int.le_refl _) (by omega)
  ·have hb:(advCheck a != (0:Int))= true:=by rw [bne_iff_ne];exact hc
   rw [hb]
   show cond (bif (0:Int) != 0 then true else advCheck a != 0) true _=true
   rw [hb];rfl
 ·rw [show ((scStart {p with Window:=p.Interval,Policy:=0,Unique:=false} 7 0).2 != (0:Int))= true by rw [bne_iff_ne];exact hz]
  rfl
end Go.Aw.W
