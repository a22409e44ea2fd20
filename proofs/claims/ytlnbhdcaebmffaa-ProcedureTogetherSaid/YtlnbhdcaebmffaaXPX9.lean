import Derived.Test.YtlnbhdcaebmffaaXW11
import Derived.Test.YtlnbhdcaebmffaaXW17
import Derived.Test.YtlnbhdcaebmffaaXW22
section
/- What the calls of chapter 28 do, by cases (own work). -/
set_option linter.unusedVariables false
namespace Go.Aw.W
open Go Go.Aw Go.Proofs
def okQ (c:Control): Prop:=(c.Kind=0∨c.Kind=1∨c.Kind=2∨c.Kind=3∨c.Kind=4∨c.Kind=5∨c.Kind=6∨c.Kind=8∨c.Kind=9∨c.Kind=12∨c.Kind=13∨c.Kind=15∨c.Kind=18∨c.Kind=19∨c.Kind=20∨c.Kind=21)∧(c.Kind=12→c.Version=11)∧(c.Kind=13→c.Rejected=3∨c.Rejected=15)∧(c.Kind=20∨c.Kind=21→27≤c.Length∧c.Length≤251)
def okW (r:Int) (c:Control): Prop:=(((c.Kind=0∨c.Kind=1∨c.Kind=3)∧r≠1)∨c.Kind=8∨c.Kind=12∨c.Kind=15∨c.Kind=18∨c.Kind=20)∧(c.Kind=12→c.Version=11)∧(c.Kind=20→27≤c.Length∧c.Length≤251)
theorem bif_and {a b:Bool} (h:(bif a then b else false)= true): a=true∧b=true:=by cases a <;> cases b <;> simp at h ⊢
theorem bif_or {a b:Bool} (h:(bif a then true else b)= false): a=false∧b=false:=by cases a <;> cases b <;> simp at h ⊢
theorem insAdd_cs (l:List Change) (e:Int) (c:Change): (∃r,r≠0∧insAdd l e c=(l,r))∨(l=[]∧insAdd l e c=([c],0)):= by
 unfold insAdd
 cases h:insCheck e c != 0
 ·simp only [cond_false]
  cases l with
  | nil=>exact .inr ⟨rfl,rfl⟩
  | cons x l =>
   have h2:decide ((0:Int) < (↑(List.length (x::l)): Int))= true:=by simp only [List.length_cons,decide_eq_true_eq];omega
   rw [h2]
   exact .inl ⟨20,by decide,rfl⟩
 ·exact .inl ⟨insCheck e c,by simpa using h,rfl⟩
theorem hnd (s:Procs) (c:Control) (ev now:Int) (M:Procs→List Control→List Indication→Prop) (hE:s.Ended=0) (hk:okQ c)
  (ign:c.Kind≠12→c.Kind≠2→c.Kind≠20→(c.Kind=0∨c.Kind=1→s.Role≠1)→(c.Kind=21→s.Own≠20)→M s [] [])
  (cf:c.Kind=0∨c.Kind=1→s.Role=1→∀r,r≠0→M {s with Ended:=r} [] [])
  (cg:c.Kind=0∨c.Kind=1→s.Role=1→s.Pending=[]→∀o,(o=s.Own∨o = -1∧s.Own=15)→M {s with Own:=o,Other:=c.Kind,OtherTime:=now,Pending:=[pChange c]} [] [])
  (te:c.Kind=2→∀r,r≠0→M {s with Ended:=r} [] [])
  (az:c.Kind=3→s.Role=1→s.Crypt=0→∀i:Indication,i.Kind=8→M {s with Other:=3,OtherTime:=now,Peer:=c.Salt,Mark:=c.Mark,Crypt:=1} [] [i])
  (sa:c.Kind=4→s.Role≠1→s.Crypt=1→M {s with Peer:=c.Salt,Crypt:=2} [] [])
  (st:c.Kind=5→s.Role≠1→s.Crypt=2→∀x:Control,x.Kind=6→M {s with Crypt:=3} [x] [])
  (oc:c.Kind=6→s.Role≠1→s.Crypt=3→∀i:Indication,i.Kind≠8→M {s with Own := -1,Crypt:=4} [] [i])
  (op:c.Kind=6→s.Role=1→s.Crypt=3→∀(x:Control) (i:Indication),x.Kind=6→i.Kind≠8→M {s with Other := -1,Crypt:=4} [x] [i])
  (re:c.Kind=13→s.Own=3∨s.Own=15→∀(k:Int) (i:Indication),(k=s.Crypt∧s.Own≠3∨k=0)→i.Kind≠8→M {s with Own := -1,Crypt:=k} [] [i])
  (fr:c.Kind=8→∀(x:Control) (i:Indication) (v:Int),x.Kind=9→i.Kind≠8→M {s with Common:=v,Known:=true} [x] [i])
  (fa:c.Kind=9→s.Own=8→∀(i:Indication) (v:Int),i.Kind≠8→M {s with Own := -1,Common:=v,Known:=true} [] [i])
  (vo:c.Kind=12→s.Own=12→∀i:Indication,i.Kind≠8→M {s with Own := -1,Version:=11} [] [i])
  (vn:c.Kind=12→s.Own≠12→s.VersionTx=false→∀(x:Control) (i:Indication),x.Kind=12→x.Version=11→i.Kind≠8→M {s with VersionTx:=true,Version:=11} [x] [i])
  (vt:c.Kind=12→s.Own≠12→s.VersionTx=true→∀i:Indication,i.Kind≠8→M {s with Version:=11} [] [i])
  (pr:c.Kind=15→∀x:Control,x.Kind=13→x.Rejected=15→M s [x] [])
  (pp:c.Kind=15→∀i:Indication,i.Kind≠8→M {s with Other:=15,OtherTime:=now} [] [i])
  (pi:c.Kind=18→∀x:Control,x.Kind=19→M s [x] [])
  (pd:c.Kind=19→s.Own=18→∀i:Indication,i.Kind≠8→M {s with Own := -1} [] [i])
  (le:c.Kind=20→∀(x:Control) (i:Indication),x.Kind=21→x.Length=s.Limit→i.Kind≠8→M {s with Length:=minI c.Length s.Limit} [x] [i])
  (la:c.Kind=21→s.Own=20→∀i:Indication,i.Kind≠8→M {s with Own := -1,Length:=minI c.Length s.Limit} [] [i]):
  M (procHandle s c ev now).1 (procHandle s c ev now).2.1 (procHandle s c ev now).2.2:=by
 obtain ⟨k,u,m,i,rea,rj,sal,ma,fe,ve,ln⟩:= c
 obtain ⟨hk,h12,h13,h20⟩:= hk
 have hE':(s.Ended != (0:Int))= false:=by rw [hE];rfl
 dsimp only at *
 have chg : ∀(k:Int) (c':Control),k=0∨k=1→s.Role=1→(pChange c'=pChange ⟨k,u,m,i,rea,rj,sal,ma,fe,ve,ln⟩)→(∀r,r≠0→M {s with Ended:=r} [] [])→(s.Pending=[]→∀o,(o=s.Own∨o = -1∧s.Own=15)→M {s with Own:=o,Other:=k,OtherTime:=now,Pending:=[pChange c']} [] [])→∀b:Bool,(b=true→s.Own=15)→
   let r:Procs×List Control×List Indication:=cond ((insAdd s.Pending ev (pChange c')).snd==(0:Int)) (cond b ((({s with Own:=(-1:Int),Other:=k,OtherTime:=now,Pending:=(insAdd s.Pending ev (pChange c')).fst}: Procs),[],[])) ((({s with Other:=k,OtherTime:=now,Pending:=(insAdd s.Pending ev (pChange c')).fst}: Procs),[],[]))) (cond ((insAdd s.Pending ev (pChange c')).snd==(18:Int)) ((({s with Ended:=(40:Int)}: Procs),[],[])) ((({s with Ended:=(42:Int)}: Procs),[],[])))
   M r.1 r.2.1 r.2.2:=by
  intro k c' _ _ _ f g b hb
  rcases insAdd_cs s.Pending ev (pChange c') with ⟨r,hr,e⟩| ⟨hp,e⟩
  ·rw [e]
   have h0:(r==0)= false:=by simpa using hr
   dsimp only
   rw [h0]
   cases (r==18) <;> exact f _ (by decide)
  ·rw [e]
   cases b
   ·exact g hp s.Own (.inl rfl)
   ·exact g hp (-1) (.inr ⟨rfl,hb rfl⟩)
 rcases hk with rfl | rfl | rfl | rfl | rfl | rfl | rfl | rfl | rfl | rfl | rfl | rfl | rfl | rfl | rfl | rfl
 ·show M (procHandleK0 s ⟨0,u,m,i,rea,rj,sal,ma,fe,ve,ln⟩ ev now).1 (procHandleK0 s ⟨0,u,m,i,rea,rj,sal,ma,fe,ve,ln⟩ ev now).2.1 (procHandleK0 s ⟨0,u,m,i,rea,rj,sal,ma,fe,ve,ln⟩ ev now).2.2
  unfold procHandleK0
  rw [hE',cond_false]
  cases h:(s.Role != (1:Int))
  ·have hr:s.Role=1:=by simpa using h
   exact chg 0 _ (.inl rfl) hr rfl (cf (.inl rfl) hr) (fun hp o ho=>cg (.inl rfl) hr hp o ho) _ (fun hb=>by simpa using hb)
  ·exact ign (by decide) (by decide) (by decide) (fun _=>by simpa using h) (fun h=>by omega)
 ·show M (procHandleK1 s ⟨1,u,m,i,rea,rj,sal,ma,fe,ve,ln⟩ ev now).1 (procHandleK1 s ⟨1,u,m,i,rea,rj,sal,ma,fe,ve,ln⟩ ev now).2.1 (procHandleK1 s ⟨1,u,m,i,rea,rj,sal,ma,fe,ve,ln⟩ ev now).2.2
  unfold procHandleK1
  rw [hE',cond_false]
  cases h:(s.Role != (1:Int))
  ·have hr:s.Role=1:=by simpa using h
   exact chg 1 _ (.inr rfl) hr rfl (cf (.inr rfl) hr) (fun hp o ho=>cg (.inr rfl) hr hp o ho) false (fun hb=>by cases hb)
  ·exact ign (by decide) (by decide) (by decide) (fun _=>by simpa using h) (fun h=>by omega)
 ·show M (procHandleK2 s ⟨2,u,m,i,rea,rj,sal,ma,fe,ve,ln⟩ ev now).1 (procHandleK2 s ⟨2,u,m,i,rea,rj,sal,ma,fe,ve,ln⟩ ev now).2.1 (procHandleK2 s ⟨2,u,m,i,rea,rj,sal,ma,fe,ve,ln⟩ ev now).2.2
  unfold procHandleK2
  rw [hE',cond_false]
  dsimp only
  cases h:(rea==(0:Int))
  ·exact te rfl _ (by simpa using h)
  ·exact te rfl _ (by decide)
 ·show M (procHandleK3 s ⟨3,u,m,i,rea,rj,sal,ma,fe,ve,ln⟩ ev now).1 (procHandleK3 s ⟨3,u,m,i,rea,rj,sal,ma,fe,ve,ln⟩ ev now).2.1 (procHandleK3 s ⟨3,u,m,i,rea,rj,sal,ma,fe,ve,ln⟩ ev now).2.2
  unfold procHandleK3
  rw [hE',cond_false]
  cases h:(bif s.Role != (1:Int) then true else s.Crypt != (0:Int))
  ·cases h1:(s.Role != (1:Int)) <;> rw [h1] at h
   ·exact az rfl (by simpa using h1) (by simpa using h) _ rfl
   ·cases h
  ·exact ign (by decide) (by decide) (by decide) (fun h=>by omega) (fun h=>by omega)
 ·show M (procHandleK4 s ⟨4,u,m,i,rea,rj,sal,ma,fe,ve,ln⟩ ev now).1 (procHandleK4 s ⟨4,u,m,i,rea,rj,sal,ma,fe,ve,ln⟩ ev now).2.1 (procHandleK4 s ⟨4,u,m,i,rea,rj,sal,ma,fe,ve,ln⟩ ev now).2.2
  unfold procHandleK4
  rw [hE',cond_false]
  cases h:(bif s.Role != (1:Int) then s.Crypt==(1:Int) else false)
  ·exact ign (by decide) (by decide) (by decide) (fun h=>by omega) (fun h=>by omega)
  ·cases h1:(s.Role != (1:Int)) <;> rw [h1] at h
   ·cases h
   ·exact sa rfl (by simpa using h1) (by simpa using h)
 ·show M (procHandleK5 s ⟨5,u,m,i,rea,rj,sal,ma,fe,ve,ln⟩ ev now).1 (procHandleK5 s ⟨5,u,m,i,rea,rj,sal,ma,fe,ve,ln⟩ ev now).2.1 (procHandleK5 s ⟨5,u,m,i,rea,rj,sal,ma,fe,ve,ln⟩ ev now).2.2
  unfold procHandleK5
  rw [hE',cond_false]
  cases h:(bif s.Role != (1:Int) then s.Crypt==(2:Int) else false)
  ·exact ign (by decide) (by decide) (by decide) (fun h=>by omega) (fun h=>by omega)
  ·cases h1:(s.Role != (1:Int)) <;> rw [h1] at h
   ·cases h
   ·exact st rfl (by simpa using h1) (by simpa using h) _ rfl
 ·show M (procHandleK6 s ⟨6,u,m,i,rea,rj,sal,ma,fe,ve,ln⟩ ev now).1 (procHandleK6 s ⟨6,u,m,i,rea,rj,sal,ma,fe,ve,ln⟩ ev now).2.1 (procHandleK6 s ⟨6,u,m,i,rea,rj,sal,ma,fe,ve,ln⟩ ev now).2.2
  unfold procHandleK6
  rw [hE',cond_false]
  cases h:(s.Crypt != (3:Int))
  ·have hc:s.Crypt=3:=by simpa using h
   cases h1:(s.Role != (1:Int))
   ·exact op rfl (by simpa using h1) hc _ _ rfl (by decide)
   ·exact oc rfl (by simpa using h1) hc _ (by decide)
  ·exact ign (by decide) (by decide) (by decide) (fun h=>by omega) (fun h=>by omega)
 ·show M (procHandleK8 s ⟨8,u,m,i,rea,rj,sal,ma,fe,ve,ln⟩ ev now).1 (procHandleK8 s ⟨8,u,m,i,rea,rj,sal,ma,fe,ve,ln⟩ ev now).2.1 (procHandleK8 s ⟨8,u,m,i,rea,rj,sal,ma,fe,ve,ln⟩ ev now).2.2
  unfold procHandleK8
  rw [hE',cond_false]
  exact fr rfl _ _ _ rfl (by simp)
 ·show M (procHandleK9 s ⟨9,u,m,i,rea,rj,sal,ma,fe,ve,ln⟩ ev now).1 (procHandleK9 s ⟨9,u,m,i,rea,rj,sal,ma,fe,ve,ln⟩ ev now).2.1 (procHandleK9 s ⟨9,u,m,i,rea,rj,sal,ma,fe,ve,ln⟩ ev now).2.2
  unfold procHandleK9
  rw [hE',cond_false]
  cases h:(s.Own != (8:Int))
  ·exact fa rfl (by simpa using h) _ _ (by simp)
  ·exact ign (by decide) (by decide) (by decide) (fun h=>by omega) (fun h=>by omega)
 ·show M (procHandleK12 s ⟨12,u,m,i,rea,rj,sal,ma,fe,ve,ln⟩ ev now).1 (procHandleK12 s ⟨12,u,m,i,rea,rj,sal,ma,fe,ve,ln⟩ ev now).2.1 (procHandleK12 s ⟨12,u,m,i,rea,rj,sal,ma,fe,ve,ln⟩ ev now).2.2
  have hv:ve=11:=h12 rfl
  subst hv
  unfold procHandleK12
  rw [hE',cond_false]
  cases h:(s.Own==(12:Int))
  ·cases h1:(!s.VersionTx)
   ·exact vt rfl (by simpa using h) (by simpa using h1) _ (by simp)
   ·exact vn rfl (by simpa using h) (by simpa using h1) _ _ rfl rfl (by simp)
  ·exact vo rfl (by simpa using h) _ (by simp)
 ·show M (procHandleK13 s ⟨13,u,m,i,rea,rj,sal,ma,fe,ve,ln⟩ ev now).1 (procHandleK13 s ⟨13,u,m,i,rea,rj,sal,ma,fe,ve,ln⟩ ev now).2.1 (procHandleK13 s ⟨13,u,m,i,rea,rj,sal,ma,fe,ve,ln⟩ ev now).2.2
  unfold procHandleK13
  rw [hE',cond_false]
  dsimp only
  cases h:(bif bif bif s.Own != rj then true else pChanges s.Own then true else s.Own==(2:Int) then true else s.Own==(-1:Int))
  ·cases h1:(s.Own != rj) <;> rw [h1] at h
   ·have hr:s.Own=rj:=by simpa using h1
    have ho:s.Own=3∨s.Own=15:=by rw [hr];exact h13 rfl
    cases h2:(s.Own==(3:Int))
    ·exact re rfl ho s.Crypt _ (.inl ⟨rfl,by simpa using h2⟩) (by simp)
    ·exact re rfl ho 0 _ (.inr rfl) (by simp)
   ·cases h
  ·exact ign (by decide) (by decide) (by decide) (fun h=>by omega) (fun h=>by omega)
 ·show M (procHandleK15 s ⟨15,u,m,i,rea,rj,sal,ma,fe,ve,ln⟩ ev now).1 (procHandleK15 s ⟨15,u,m,i,rea,rj,sal,ma,fe,ve,ln⟩ ev now).2.1 (procHandleK15 s ⟨15,u,m,i,rea,rj,sal,ma,fe,ve,ln⟩ ev now).2.2
  unfold procHandleK15
  rw [hE',cond_false]
  cases (!s.Role != (1:Int))
  ·rw [cond_false]
   cases (pChanges s.Own)
   ·exact pp rfl _ (by simp)
   ·exact pr rfl _ rfl rfl
  ·exact ign (by decide) (by decide) (by decide) (fun h=>by omega) (fun h=>by omega)
 ·show M (procHandleK18 s ⟨18,u,m,i,rea,rj,sal,ma,fe,ve,ln⟩ ev now).1 (procHandleK18 s ⟨18,u,m,i,rea,rj,sal,ma,fe,ve,ln⟩ ev now).2.1 (procHandleK18 s ⟨18,u,m,i,rea,rj,sal,ma,fe,ve,ln⟩ ev now).2.2
  unfold procHandleK18
  rw [hE',cond_false]
  exact pi rfl _ rfl
 ·show M (procHandleK19 s ⟨19,u,m,i,rea,rj,sal,ma,fe,ve,ln⟩ ev now).1 (procHandleK19 s ⟨19,u,m,i,rea,rj,sal,ma,fe,ve,ln⟩ ev now).2.1 (procHandleK19 s ⟨19,u,m,i,rea,rj,sal,ma,fe,ve,ln⟩ ev now).2.2
  unfold procHandleK19
  rw [hE',cond_false]
  cases h:(s.Own==(18:Int))
  ·exact ign (by decide) (by decide) (by decide) (fun h=>by omega) (fun h=>by omega)
  ·exact pd rfl (by simpa using h) _ (by simp)
 ·show M (procHandleK20 s ⟨20,u,m,i,rea,rj,sal,ma,fe,ve,ln⟩ ev now).1 (procHandleK20 s ⟨20,u,m,i,rea,rj,sal,ma,fe,ve,ln⟩ ev now).2.1 (procHandleK20 s ⟨20,u,m,i,rea,rj,sal,ma,fe,ve,ln⟩ ev now).2.2
  unfold procHandleK20
  rw [hE',cond_false]
  exact le rfl _ _ rfl rfl (by simp)
 ·show M (procHandleK21 s ⟨21,u,m,i,rea,rj,sal,ma,fe,ve,ln⟩ ev now).1 (procHandleK21 s ⟨21,u,m,i,rea,rj,sal,ma,fe,ve,ln⟩ ev now).2.1 (procHandleK21 s ⟨21,u,m,i,rea,rj,sal,ma,fe,ve,ln⟩ ev now).2.2
  unfold procHandleK21
  rw [hE',cond_false]
  cases h:(s.Own != (20:Int))
  ·exact la rfl (by simpa using h) _ (by simp)
  ·exact ign (by decide) (by decide) (by decide) (fun h=>by omega) (fun _=>by simpa using h)
theorem snt (s:Procs) (c:Control) (M:Procs→Prop) (h : ∀t e,(t=s.Told∨pChanges c.Kind=true)→(e=s.Ended∨e≠0)→M {s with Told:=t,Ended:=e}): M (procSent s c).1:=by
 unfold procSent
 cases h1:(bif pChanges c.Kind then s.Own==c.Kind else false)
 ·cases (bif bif s.Ended==(0:Int) then s.Own==(2:Int) else false then c.Kind==(2:Int) else false)
  ·exact h s.Told s.Ended (.inl rfl) (.inl rfl)
  ·exact h s.Told 22 (.inl rfl) (.inr (by decide))
 ·have h2:pChanges c.Kind=true:=(bif_and h1).1
  cases (bif bif s.Ended==(0:Int) then s.Own==(2:Int) else false then c.Kind==(2:Int) else false)
  ·exact h true s.Ended (.inr h2) (.inl rfl)
  ·exact h true 22 (.inr h2) (.inr (by decide))
theorem ans (s:Procs) (f:Bool) (sl:Int) (M:Procs→List Control→Prop) (h0:M s []) (h1:s.Role=1→s.Crypt=1→∀x:Control,x.Kind=13→x.Rejected=3→M {s with Other := -1,Crypt:=0} [x]) (h2:s.Role=1→s.Crypt=1→∀x y:Control,x.Kind=4→y.Kind=5→M {s with Salt:=sl,Crypt:=3} [x,y]): M (procAnswer s f sl).1 (procAnswer s f sl).2:=by
 unfold procAnswer
 cases h:(bif bif s.Role != (1:Int) then true else s.Ended != (0:Int) then true else s.Crypt != (1:Int))
 ·obtain ⟨h3,h4⟩:= bif_or h
  have hr:s.Role=1:=by simpa using (bif_or h3).1
  have hc:s.Crypt=1:=by simpa using h4
  cases f
  ·exact h1 hr hc _ rfl rfl
  ·exact h2 hr hc _ _ rfl rfl
 ·exact h0
end Go.Aw.W
end
section
/- What Start does, by cases (own work). -/
set_option linter.unusedVariables false
namespace Go.Aw.W
open Go Go.Aw Go.Proofs
structure Beg (s:Procs) (ev now:Int) (M:Procs→List Control→Prop): Prop where
 b1 : ∀x:Control,x.Kind=0∨x.Kind=1→s.Role≠1→s.Own = -1→s.Pending=[]→x.Instant=insPlan ev 0→∀o,M {s with Own:=x.Kind,Since:=now,Other:=o,Pending:=(insAdd s.Pending ev (pChange x)).1,Told:=false} [x]
 b3 : ∀x:Control,x.Kind=3→s.Role≠1→s.Own = -1→M {s with Own:=3,Since:=now,Salt:=x.Salt,Mark:=x.Mark,Crypt:=1} [x]
 bv : ∀x:Control,x.Kind=12→x.Version=11→s.Own = -1→s.VersionTx=false→M {s with Own:=12,Since:=now,VersionTx:=true} [x]
 bl : ∀x:Control,x.Kind=20→27≤x.Length→x.Length≤251→s.Own = -1→M {s with Own:=20,Since:=now,Limit:=x.Length} [x]
 bo : ∀x:Control,x.Kind=8∨x.Kind=15∨x.Kind=18→s.Own = -1→M {s with Own:=x.Kind,Since:=now} [x]
theorem chkLen {u:Update} {m i rea rj sal ma fe ve ln:Int} (h:(cCheck ⟨20,u,m,i,rea,rj,sal,ma,fe,ve,ln⟩ != (0:Int))= false): 27≤ln∧ln≤251:=by
 have h:cCheck ⟨20,u,m,i,rea,rj,sal,ma,fe,ve,ln⟩= 0:=by simpa using h
 unfold cCheck at h
 simp only [show ((20:Int)== 5)= false by decide,show ((20:Int)== 6)= false by decide,show ((20:Int)== 18)= false by decide,show ((20:Int)== 19)= false by decide,show ((20:Int)== 8)= false by decide,show ((20:Int)== 9)= false by decide,show ((20:Int)== 3)= false by decide,show ((20:Int)== 4)= false by decide,show ((20:Int)== 7)= false by decide,show ((20:Int)== 13)= false by decide,show ((20:Int)== 12)= false by decide,show ((20:Int)== 15)= false by decide,show ((20:Int)== 0)= false by decide,show ((20:Int)== 1)= false by decide,show ((20:Int)== 2)= false by decide,show ((20:Int)== 20)= true by decide,cond_false,cond_true] at h
 rw [Bool.cond_eq_ite] at h
 split at h
 ·cases h
 ·unfold cIn at h
  cases h1:(bif decide (ln < (27:Int)) then true else decide ((251:Int) < ln))
  ·obtain ⟨a,b⟩:= bif_or h1
   simp only [decide_eq_false_iff_not] at a b
   omega
  ·rw [h1] at h;cases h
def NM (M:Procs→List Control→Prop) (r:Procs×List Control×Int): Prop:=M r.1 r.2.1
theorem gd {M:Procs→List Control→Prop} {s:Procs} {b:Bool} {e:Int} {r:Procs×List Control×Int} (h0:M s []) (h:b=false→NM M r): NM M (cond b (s,[],e) r):= by
 cases b
 ·exact h rfl
 ·exact h0
theorem gb {M:Procs→List Control→Prop} {b:Bool} {t r:Procs×List Control×Int} (ht:b=true→NM M t) (h:b=false→NM M r): NM M (cond b t r):= by
 cases b
 ·exact h rfl
 ·exact ht rfl
theorem go_own {s:Procs} {b:Bool} (h:(bif bif s.Own==(-1:Int) then (↑(List.length s.Waiting): Int)== (0:Int) else false then b else false)= true): s.Own = -1∧b=true:=by
 obtain ⟨h1,h2⟩:= bif_and h
 obtain ⟨h3,_⟩:= bif_and h1
 exact ⟨by simpa using h3,h2⟩
theorem go_pend {s:Procs} {k:Int} (hk:pChanges k=true) (h:(!bif pChanges k then decide ((0:Int) < (↑(List.length s.Pending): Int)) else false)= true): s.Pending=[]:= by
 rw [hk] at h
 cases hp:s.Pending with
 | nil=>rfl
 | cons a l=>rw [hp] at h;simp at h
theorem start_el (s:Procs) (c:Control) (ev now:Int) (M:Procs→List Control→Prop) (h0:M s []) (hw : ∀x,okW s.Role x→s.Waiting.length < 8→M {s with Waiting:=s.Waiting ++ [x]} []) (ht : ∀x:Control,x.Kind=2→M {s with Own:=2,Since:=now,Waiting:=[]} [x]) (hb:Beg s ev now M): M (procStart s c ev now).1 (procStart s c ev now).2.1:=by
 show NM M (procStart s c ev now)
 obtain ⟨k,u,m,i,rea,rj,sal,ma,fe,ve,ln⟩:= c
 have lt8:decide ((8:Int)≤(↑(List.length s.Waiting): Int))= false→s.Waiting.length < 8:=by intro h;simp only [decide_eq_false_iff_not] at h;omega
 unfold procStart
 dsimp only
 refine gb (fun h=>?_) fun _=>?_
 ·exact h0
 refine gb (fun h=>?_) fun _=>?_
 ·unfold procStartK0
  refine gd h0 fun hc=>gd h0 fun hE=>gd h0 fun hR=>gb (fun hg=>?_) fun _=>gd h0 fun h8=>?_
  ·have hr:s.Role≠1:=by have:=(bif_or hR).1;simpa using this
   obtain ⟨ho,hp⟩:= go_own hg
   have hp:=go_pend (k:=0) rfl hp
   have H:=hb.b1 ⟨0,u,m,insPlan ev 0,rea,rj,sal,ma,fe,ve,ln⟩ (.inl rfl) hr ho hp rfl
   exact gb (fun _=>H (-1)) fun _=>H s.Other
  ·have hr:s.Role≠1:=by have:=(bif_or hR).1;simpa using this
   exact hw ⟨0,u,m,0,rea,rj,sal,ma,fe,ve,ln⟩ ⟨.inl ⟨.inl rfl,hr⟩,nofun,nofun⟩ (lt8 h8)
 refine gb (fun h=>?_) fun _=>?_
 ·unfold procStartK1
  refine gd h0 fun hc=>gd h0 fun hE=>gd h0 fun hR=>gb (fun hg=>?_) fun _=>gd h0 fun h8=>?_
  ·have hr:s.Role≠1:=by have:=(bif_or hR).1;simpa using this
   obtain ⟨ho,hp⟩:= go_own hg
   have hp:=go_pend (k:=1) rfl hp
   have H:=hb.b1 ⟨1,u,m,insPlan ev 0,rea,rj,sal,ma,fe,ve,ln⟩ (.inr rfl) hr ho hp rfl
   exact H s.Other
  ·have hr:s.Role≠1:=by have:=(bif_or hR).1;simpa using this
   exact hw ⟨1,u,m,0,rea,rj,sal,ma,fe,ve,ln⟩ ⟨.inl ⟨.inr (.inl rfl),hr⟩,nofun,nofun⟩ (lt8 h8)
 refine gb (fun h=>?_) fun _=>?_
 ·unfold procStartK2
  exact gd h0 fun hc=>gd h0 fun hE=>ht ⟨2,u,m,i,rea,rj,sal,ma,fe,ve,ln⟩ rfl
 refine gb (fun h=>?_) fun _=>?_
 ·unfold procStartK3
  refine gd h0 fun hc=>gd h0 fun hE=>gd h0 fun hR=>gb (fun hg=>?_) fun _=>gd h0 fun h8=>?_
  ·have hr:s.Role≠1:=by have:=(bif_or hR).1;simpa using this
   exact hb.b3 ⟨3,u,m,i,rea,rj,sal,ma,fe,ve,ln⟩ rfl hr (go_own hg).1
  ·have hr:s.Role≠1:=by have:=(bif_or hR).1;simpa using this
   exact hw ⟨3,u,m,i,rea,rj,sal,ma,fe,ve,ln⟩ ⟨.inl ⟨.inr (.inr rfl),hr⟩,nofun,nofun⟩ (lt8 h8)
 refine gb (fun h=>?_) fun _=>?_
 ·unfold procStartK8
  refine gd h0 fun hc=>gd h0 fun hE=>gb (fun hg=>?_) fun _=>gd h0 fun h8=>?_
  ·exact hb.bo ⟨8,u,m,i,rea,rj,sal,ma,s.Features,ve,ln⟩ (.inl rfl) (go_own hg).1
  ·exact hw ⟨8,u,m,i,rea,rj,sal,ma,s.Features,ve,ln⟩ ⟨.inr (.inl rfl),nofun,nofun⟩ (lt8 h8)
 refine gb (fun h=>?_) fun _=>?_
 ·unfold procStartK12
  refine gd h0 fun hc=>gd h0 fun hE=>gd h0 fun hR=>gb (fun hg=>?_) fun _=>gd h0 fun h8=>?_
  ·exact hb.bv ⟨12,u,m,i,rea,rj,sal,ma,fe,11,ln⟩ rfl rfl (go_own hg).1 (by simpa using hR)
  ·exact hw ⟨12,u,m,i,rea,rj,sal,ma,fe,11,ln⟩ ⟨.inr (.inr (.inl rfl)),fun _=>rfl,nofun⟩ (lt8 h8)
 refine gb (fun h=>?_) fun _=>?_
 ·unfold procStartK15
  refine gd h0 fun hc=>gd h0 fun hE=>gd h0 fun hR=>gb (fun hg=>?_) fun _=>gd h0 fun h8=>?_
  ·exact hb.bo ⟨15,u,m,i,rea,rj,sal,ma,fe,ve,ln⟩ (.inr (.inl rfl)) (go_own hg).1
  ·exact hw ⟨15,u,m,i,rea,rj,sal,ma,fe,ve,ln⟩ ⟨.inr (.inr (.inr (.inl rfl))),nofun,nofun⟩ (lt8 h8)
 refine gb (fun h=>?_) fun _=>?_
 ·unfold procStartK18
  refine gd h0 fun hc=>gd h0 fun hE=>gb (fun hg=>?_) fun _=>gd h0 fun h8=>?_
  ·exact hb.bo ⟨18,u,m,i,rea,rj,sal,ma,fe,ve,ln⟩ (.inr (.inr rfl)) (go_own hg).1
  ·exact hw ⟨18,u,m,i,rea,rj,sal,ma,fe,ve,ln⟩ ⟨.inr (.inr (.inr (.inr (.inl rfl)))),nofun,nofun⟩ (lt8 h8)
 refine gb (fun h=>?_) fun _=>?_
 ·unfold procStartK20
  refine gd h0 fun hc=>gd h0 fun hE=>gb (fun hg=>?_) fun _=>gd h0 fun h8=>?_
  ·exact hb.bl ⟨20,u,m,i,rea,rj,sal,ma,fe,ve,ln⟩ rfl (chkLen hc).1 (chkLen hc).2 (go_own hg).1
  ·exact hw ⟨20,u,m,i,rea,rj,sal,ma,fe,ve,ln⟩ ⟨.inr (.inr (.inr (.inr (.inr rfl)))),nofun,fun _=>chkLen hc⟩ (lt8 h8)
 unfold procStartO
 dsimp only
 refine gd h0 fun hc=>?_
 rename_i n1 n2 n3 n4 n5 n6 n7 n8 n9 n10
 have:=cProc_ne k n1 n2 n3 n4 n5 n6 n7 n8 n9 n10
 rw [this] at hc
 cases hc
end Go.Aw.W
end
section
/- The exchange of two sides: what holds between its steps (own work). -/
set_option linter.unusedVariables false
namespace Go.Aw.W
open Go Go.Aw Go.Proofs
structure Sd where
 s:Procs
 q:List Control
 d:List Law28applied
 v:Int
def vput:List Control→Int→Int
 | [],v=>v
 | c::l,v=>vput l (cond (c.Kind==12) (IntKind.wrap .i64 (v+1)) v)
def Sd.put (a:Sd) (l:List Control): Sd:=⟨a.s,a.q ++ l,a.d,vput l a.v⟩
def Sd.ws (a:Sd) (s:Procs): Sd:=⟨s,a.q,a.d,a.v⟩
theorem put_nil (a:Sd): a.put []= a:=by unfold Sd.put;rw [List.append_nil];rfl
def aft (t:Law28Talk) (b:Sd) (s':Procs) (l:List Control) (told:List Indication): Sd :=
 match told with
 | []=> (b.ws s').put l
 | i::_=>cond (i.Kind==8) ((((b.ws s').put l).ws (procAnswer s' t.Found t.Salt).1).put (procAnswer s' t.Found t.Salt).2) ((b.ws s').put l)
def dlv (t:Law28Talk) (a b:Sd) (ev now:Int): Sd×Sd :=
 match a.q with
 | []=> (a,b)
 | c::q=>(⟨(procSent a.s c).1,q,a.d,a.v⟩,aft t b (procHandle b.s c ev now).1 (procHandle b.s c ev now).2.1 (procHandle b.s c ev now).2.2)
structure Hnd (s:Procs) (c:Control) (now:Int) (N:Procs→List Control→Prop): Prop where
 ign:c.Kind≠12→c.Kind≠2→c.Kind≠20→(c.Kind=0∨c.Kind=1→s.Role≠1)→(c.Kind=21→s.Own≠20)→N s []
 cf:c.Kind=0∨c.Kind=1→s.Role=1→∀r,r≠0→N {s with Ended:=r} []
 cg:c.Kind=0∨c.Kind=1→s.Role=1→s.Pending=[]→∀o,(o=s.Own∨o = -1∧s.Own=15)→N {s with Own:=o,Other:=c.Kind,OtherTime:=now,Pending:=[pChange c]} []
 te:c.Kind=2→∀r,r≠0→N {s with Ended:=r} []
 a0:c.Kind=3→s.Role=1→s.Crypt=0→N {s with Other:=3,OtherTime:=now,Peer:=c.Salt,Mark:=c.Mark,Crypt:=1} []
 a1:c.Kind=3→s.Role=1→s.Crypt=0→∀x:Control,x.Kind=13→x.Rejected=3→N {s with Other := -1,OtherTime:=now,Peer:=c.Salt,Mark:=c.Mark,Crypt:=0} [x]
 a2:c.Kind=3→s.Role=1→s.Crypt=0→∀(sl:Int) (x y:Control),x.Kind=4→y.Kind=5→N {s with Other:=3,OtherTime:=now,Salt:=sl,Peer:=c.Salt,Mark:=c.Mark,Crypt:=3} [x,y]
 sa:c.Kind=4→s.Role≠1→s.Crypt=1→N {s with Peer:=c.Salt,Crypt:=2} []
 st:c.Kind=5→s.Role≠1→s.Crypt=2→∀x:Control,x.Kind=6→N {s with Crypt:=3} [x]
 oc:c.Kind=6→s.Role≠1→s.Crypt=3→N {s with Own := -1,Crypt:=4} []
 op:c.Kind=6→s.Role=1→s.Crypt=3→∀x:Control,x.Kind=6→N {s with Other := -1,Crypt:=4} [x]
 re:c.Kind=13→s.Own=3∨s.Own=15→∀k:Int,(k=s.Crypt∧s.Own≠3∨k=0)→N {s with Own := -1,Crypt:=k} []
 fr:c.Kind=8→∀(x:Control) (v:Int),x.Kind=9→N {s with Common:=v,Known:=true} [x]
 fa:c.Kind=9→s.Own=8→∀v:Int,N {s with Own := -1,Common:=v,Known:=true} []
 vo:c.Kind=12→s.Own=12→N {s with Own := -1,Version:=11} []
 vn:c.Kind=12→s.Own≠12→s.VersionTx=false→∀x:Control,x.Kind=12→x.Version=11→N {s with VersionTx:=true,Version:=11} [x]
 vt:c.Kind=12→s.Own≠12→s.VersionTx=true→N {s with Version:=11} []
 pr:c.Kind=15→∀x:Control,x.Kind=13→x.Rejected=15→N s [x]
 pp:c.Kind=15→N {s with Other:=15,OtherTime:=now} []
 pi:c.Kind=18→∀x:Control,x.Kind=19→N s [x]
 pd:c.Kind=19→s.Own=18→N {s with Own := -1} []
 le:c.Kind=20→∀x:Control,x.Kind=21→x.Length=s.Limit→N {s with Length:=minI c.Length s.Limit} [x]
 la:c.Kind=21→s.Own=20→N {s with Own := -1,Length:=minI c.Length s.Limit} []
structure Snt (s:Procs) (c:Control) (s':Procs): Prop where
 e : ∃t e,(t=s.Told∨pChanges c.Kind=true)∧(e=s.Ended∨e≠0)∧s'={s with Told:=t,Ended:=e}
theorem dlv_el (t:Law28Talk) (a b:Sd) (ev now:Int) (c:Control) (q:List Control) (hq:a.q=c::q) (hE:b.s.Ended=0) (hk:okQ c) (G:Sd→Sd→Prop)
  (h : ∀sa,Snt a.s c sa→Hnd b.s c now (fun s' l=>G ⟨sa,q,a.d,a.v⟩ ((b.ws s').put l))): G (dlv t a b ev now).1 (dlv t a b ev now).2:=by
 unfold dlv
 rw [hq]
 dsimp only
 have hs:Snt a.s c (procSent a.s c).1:=snt a.s c (fun s'=>Snt a.s c s') (fun t e h1 h2=>⟨t,e,h1,h2,rfl⟩)
 have H:=h _ hs
 generalize (procSent a.s c).1=sa at H
 have n8 : ∀(s':Procs) (l:List Control) (i:Indication),i.Kind≠8→G ⟨sa,q,a.d,a.v⟩ ((b.ws s').put l)→G ⟨sa,q,a.d,a.v⟩ (aft t b s' l [i]):= by
  intro s' l i hi hg
  have:(i.Kind==8)= false:=by simpa using hi
  unfold aft
  dsimp only
  rw [this]
  exact hg
 refine hnd b.s c ev now (fun s' l told=>G ⟨sa,q,a.d,a.v⟩ (aft t b s' l told)) hE hk H.ign H.cf H.cg H.te ?_ H.sa H.st ?_ ?_ ?_ ?_ ?_ ?_ ?_ ?_ H.pr ?_ H.pi ?_ ?_ ?_
 ·intro h1 h2 h3 i hi
  have:(i.Kind==8)= true:=by rw [hi];rfl
  unfold aft
  dsimp only
  rw [this,cond_true]
  rw [put_nil]
  refine ans _ t.Found t.Salt (fun s' l=>G ⟨sa,q,a.d,a.v⟩ (((b.ws _).ws s').put l)) (H.a0 h1 h2 h3) ?_ ?_
  ·intro _ _ x hx hr;exact H.a1 h1 h2 h3 x hx hr
  ·intro _ _ x y hx hy;exact H.a2 h1 h2 h3 _ x y hx hy
 ·intro h1 h2 h3 i hi;exact n8 _ _ _ hi (H.oc h1 h2 h3)
 ·intro h1 h2 h3 x i hx hi;exact n8 _ _ _ hi (H.op h1 h2 h3 x hx)
 ·intro h1 h2 k i hx hi;exact n8 _ _ _ hi (H.re h1 h2 k hx)
 ·intro h1 x i v hx hi;exact n8 _ _ _ hi (H.fr h1 x v hx)
 ·intro h1 h2 i v hi;exact n8 _ _ _ hi (H.fa h1 h2 v)
 ·intro h1 h2 i hi;exact n8 _ _ _ hi (H.vo h1 h2)
 ·intro h1 h2 h3 x i hx hv hi;exact n8 _ _ _ hi (H.vn h1 h2 h3 x hx hv)
 ·intro h1 h2 h3 i hi;exact n8 _ _ _ hi (H.vt h1 h2 h3)
 ·intro h1 i hi;exact n8 _ _ _ hi (H.pp h1)
 ·intro h1 h2 i hi;exact n8 _ _ _ hi (H.pd h1 h2)
 ·intro h1 x i hx hv hi;exact n8 _ _ _ hi (H.le h1 x hx hv)
 ·intro h1 h2 i hi;exact n8 _ _ _ hi (H.la h1 h2)
structure Ok (r:Int) (a:Sd): Prop where
 role:a.s.Role=r
 wl:a.s.Waiting.length≤8
 ww : ∀c∈a.s.Waiting,okW r c
 pl:a.s.Pending.length≤1
 pk : ∀p∈a.s.Pending,p.Kind=0∨p.Kind=1
 qq : ∀c∈a.q,okQ c
 vv:a.v=if a.s.VersionTx=true then 1 else 0
 ov:a.s.Own=12→a.s.VersionTx=true
 ll:27≤a.s.Limit∧a.s.Limit≤251
theorem vput1 (x:Control) (v:Int): vput [x] v=cond (x.Kind==12) (IntKind.wrap .i64 (v+1)) v:=rfl
theorem qq1 {q:List Control} {x:Control} (h : ∀c∈q,okQ c) (hx:okQ x): ∀c∈q ++ [x],okQ c:=by
 intro c hc
 rcases List.mem_append.1 hc with hc | hc
 ·exact h c hc
 ·rw [List.mem_singleton.1 hc];exact hx
theorem Ok.keep {r:Int} {a:Sd} (h:Ok r a) {s':Procs} {l:List Control} (h1:s'.Role=a.s.Role) (h2:s'.Waiting=a.s.Waiting) (h3:s'.Pending=a.s.Pending∨∃p,s'.Pending=[p]∧(p.Kind=0∨p.Kind=1)) (h4:s'.VersionTx=a.s.VersionTx) (h5:s'.Own=12→a.s.VersionTx=true) (h6:27≤s'.Limit∧s'.Limit≤251) (hl : ∀x∈l,okQ x∧x.Kind≠12): Ok r ((a.ws s').put l):= by
 have hv : ∀(l:List Control) (v:Int),(∀x∈l,okQ x∧x.Kind≠12)→vput l v=v:=by
  intro l
  induction l with
  | nil=>intro v _;rfl
  | cons x l ih =>
   intro v hx
   have:(x.Kind==12)= false:=by simpa using (hx x (List.mem_cons_self ..)).2
   show vput l (cond (x.Kind==12) _ v)= v
   rw [this]
   exact ih v (fun y hy=>hx y (List.mem_cons_of_mem _ hy))
 refine ⟨h1.trans h.role, ?_, ?_, ?_, ?_, ?_, ?_, ?_,h6⟩
 ·show s'.Waiting.length≤8;rw [h2];exact h.wl
 ·show ∀c∈s'.Waiting,okW r c;rw [h2];exact h.ww
 ·show s'.Pending.length≤1
  rcases h3 with e | ⟨p,e,_⟩ <;> rw [e]
  ·exact h.pl
  ·exact Nat.le_refl _
 ·show ∀p∈s'.Pending,p.Kind=0∨p.Kind=1
  rcases h3 with e | ⟨p,e,hp⟩ <;> rw [e]
  ·exact h.pk
  ·intro p' hp';rw [List.mem_singleton.1 hp'];exact hp
 ·show ∀c∈a.q ++ l,okQ c
  intro c hc
  rcases List.mem_append.1 hc with hc | hc
  ·exact h.qq c hc
  ·exact (hl c hc).1
 ·show vput l a.v=if s'.VersionTx=true then 1 else 0
  rw [hv l a.v hl,h4];exact h.vv
 ·show s'.Own=12→s'.VersionTx=true
  rw [h4];exact h5
theorem no_mem {P:Control→Prop}: ∀x∈([]: List Control),P x:=fun x h=>by cases h
theorem one_mem {P:Control→Prop} {x:Control} (h:P x): ∀y∈[x],P y:=fun y hy=>by rw [List.mem_singleton.1 hy];exact h
theorem two_mem {P:Control→Prop} {x y:Control} (h:P x) (h2:P y): ∀z∈[x,y],P z:=fun z hz=>by
 rcases List.mem_cons.1 hz with e | hz
 ·rw [e];exact h
 ·rw [List.mem_singleton.1 hz];exact h2
theorem okQ_k {x:Control} (h:x.Kind=0∨x.Kind=1∨x.Kind=2∨x.Kind=3∨x.Kind=4∨x.Kind=5∨x.Kind=6∨x.Kind=8∨x.Kind=9∨x.Kind=15∨x.Kind=18∨x.Kind=19): okQ x∧x.Kind≠12 :=
 ⟨⟨by omega,fun e=>by omega,fun e=>by omega,fun e=>by omega⟩,by omega⟩
theorem okQ_13 {x:Control} (h:x.Kind=13) (hr:x.Rejected=3∨x.Rejected=15): okQ x∧x.Kind≠12 :=
 ⟨⟨by omega,fun e=>by omega,fun e=>hr,fun e=>by omega⟩,by omega⟩
theorem okQ_len {x:Control} (h:x.Kind=20∨x.Kind=21) (h1:27≤x.Length) (h2:x.Length≤251): okQ x∧x.Kind≠12 :=
 ⟨⟨by omega,fun e=>by omega,fun e=>by omega,fun _=>⟨h1,h2⟩⟩,by omega⟩
theorem okQ_12 {x:Control} (h:x.Kind=12) (h1:x.Version=11): okQ x :=
 ⟨by omega,fun e=>h1,fun e=>by omega,fun e=>by omega⟩
theorem Ok.newv {r:Int} {a:Sd} (h:Ok r a) {s':Procs} {x:Control} (h1:s'.Role=a.s.Role) (h2:s'.Waiting=a.s.Waiting) (h3:s'.Pending=a.s.Pending) (h4:a.s.VersionTx=false) (h5:s'.VersionTx=true) (h6:27≤s'.Limit∧s'.Limit≤251) (hx:x.Kind=12) (hv:x.Version=11): Ok r ((a.ws s').put [x]):= by
 have h0:=h.vv
 rw [h4] at h0
 refine ⟨h1.trans h.role,by show s'.Waiting.length≤8;rw [h2];exact h.wl,by show ∀c∈s'.Waiting,okW r c;rw [h2];exact h.ww,by show s'.Pending.length≤1;rw [h3];exact h.pl,by show ∀p∈s'.Pending,p.Kind=0∨p.Kind=1;rw [h3];exact h.pk,qq1 h.qq (okQ_12 hx hv), ?_,fun _=>h5,h6⟩
 show vput [x] a.v=if s'.VersionTx=true then 1 else 0
 rw [h5,vput1,hx,h0]
 decide
theorem Ok.sent {r:Int} {a:Sd} (h:Ok r a) {c:Control} {q:List Control} (hq:a.q=c::q) {sa:Procs} (hs:Snt a.s c sa): Ok r ⟨sa,q,a.d,a.v⟩:= by
 obtain ⟨t,e,_,_,rfl⟩:= hs.e
 exact ⟨h.role,h.wl,h.ww,h.pl,h.pk,fun c' hc=>h.qq c' (by rw [hq];exact List.mem_cons_of_mem _ hc),h.vv,h.ov,h.ll⟩
theorem Ok.hnd {r:Int} {b:Sd} (h:Ok r b) (c:Control) (now:Int): Hnd b.s c now (fun s' l=>Ok r ((b.ws s').put l)):= by
 constructor
 case ign =>
  intros
  exact h.keep rfl rfl (.inl rfl) rfl h.ov h.ll (no_mem)
 case cf =>
  intros
  exact h.keep rfl rfl (.inl rfl) rfl h.ov h.ll (no_mem)
 case cg =>
  intros
  exact h.keep rfl rfl (.inr ⟨_,rfl,by rename_i h1 _ _ _ _;exact h1.imp id id⟩) rfl (fun e=>by rename_i o ho;have e:o=12:=e;rcases ho with ho | ⟨ho,_⟩;exact h.ov (by rw [←ho];exact e);omega) h.ll (no_mem)
 case te =>
  intros
  exact h.keep rfl rfl (.inl rfl) rfl h.ov h.ll (no_mem)
 case a0 =>
  intros
  exact h.keep rfl rfl (.inl rfl) rfl h.ov h.ll (no_mem)
 case a1 =>
  intros
  rename_i x hx hy
  exact h.keep rfl rfl (.inl rfl) rfl h.ov h.ll (one_mem (okQ_13 hx (.inl hy)))
 case a2 =>
  intros
  exact h.keep rfl rfl (.inl rfl) rfl h.ov h.ll (two_mem (okQ_k (by omega)) (okQ_k (by omega)))
 case sa =>
  intros
  exact h.keep rfl rfl (.inl rfl) rfl h.ov h.ll (no_mem)
 case st =>
  intros
  exact h.keep rfl rfl (.inl rfl) rfl h.ov h.ll (one_mem (okQ_k (by omega)))
 case oc =>
  intros
  exact h.keep rfl rfl (.inl rfl) rfl (fun e=>by cases e) h.ll (no_mem)
 case op =>
  intros
  exact h.keep rfl rfl (.inl rfl) rfl h.ov h.ll (one_mem (okQ_k (by omega)))
 case re =>
  intros
  exact h.keep rfl rfl (.inl rfl) rfl (fun e=>by cases e) h.ll (no_mem)
 case fr =>
  intros
  exact h.keep rfl rfl (.inl rfl) rfl h.ov h.ll (one_mem (okQ_k (by omega)))
 case fa =>
  intros
  exact h.keep rfl rfl (.inl rfl) rfl (fun e=>by cases e) h.ll (no_mem)
 case vo =>
  intros
  exact h.keep rfl rfl (.inl rfl) rfl (fun e=>by cases e) h.ll (no_mem)
 case vn =>
  intros
  rename_i h4 x hx hv
  exact h.newv rfl rfl rfl h4 rfl h.ll hx hv
 case vt =>
  intros
  exact h.keep rfl rfl (.inl rfl) rfl h.ov h.ll (no_mem)
 case pr =>
  intros
  rename_i x hx hy
  exact h.keep rfl rfl (.inl rfl) rfl h.ov h.ll (one_mem (okQ_13 hx (.inr hy)))
 case pp =>
  intros
  exact h.keep rfl rfl (.inl rfl) rfl h.ov h.ll (no_mem)
 case pi =>
  intros
  exact h.keep rfl rfl (.inl rfl) rfl h.ov h.ll (one_mem (okQ_k (by omega)))
 case pd =>
  intros
  exact h.keep rfl rfl (.inl rfl) rfl (fun e=>by cases e) h.ll (no_mem)
 case le =>
  intros
  rename_i x hx hy
  exact h.keep rfl rfl (.inl rfl) rfl h.ov h.ll (one_mem (okQ_len (.inr hx) (hy ▸ h.ll.1) (hy ▸ h.ll.2)))
 case la =>
  intros
  exact h.keep rfl rfl (.inl rfl) rfl (fun e=>by cases e) h.ll (no_mem)
end Go.Aw.W
end
section
/- What Ready and Due do, by cases (own work). -/
set_option linter.unusedVariables false
namespace Go.Aw.W
open Go Go.Aw Go.Proofs
theorem ready_stop (p0:Procs) (ev now:Int) (n0:Nat) (hn:0 < n0) (a:Procs) (out:List Control) (h:a.Own≠ -1): procReady.go p0 ev now n0 a out=(a,out):= by
 cases n0 with
 | zero=>omega
 | succ n0 =>
 unfold procReady.go
 have h1:(a.Own==(-1:Int))= false:=by simpa using h
 rw [h1]
 cases (a.Ended==(0:Int)) <;> rfl
theorem ready_go (p0:Procs) (ev now:Int) (M:Procs→List Control→Prop) (n0:Nat): ∀(a:Procs),a.Waiting.length < n0→(∀c∈a.Waiting,okW a.Role c)→(∀n,M {a with Waiting:=a.Waiting.drop n} [])→(a.Ended=0→∀n,Beg {a with Waiting:=a.Waiting.drop n} ev now M)→M (procReady.go p0 ev now n0 a []).1 (procReady.go p0 ev now n0 a []).2:=by
 induction n0 with
 | zero=>intro a h;omega
 | succ n0 ih =>
 intro a hl hW h0 hb
 have hM:M a []:= h0 0
 unfold procReady.go
 cases hc:(bif bif a.Ended==(0:Int) then a.Own==(-1:Int) else false then decide ((0:Int) < (↑(List.length a.Waiting): Int)) else false)
 ·exact hM
 obtain ⟨h1,h2⟩:= bif_and hc
 obtain ⟨h3,h4⟩:= bif_and h1
 clear hc h1
 have hE:a.Ended=0:=by simpa using h3
 have hO:a.Own = -1:=by simpa using h4
 clear h3 h4
 rw [cond_true]
 obtain ⟨ro,ow,si,wa,ot,ott,pe,to,fe,co,kn,vt,ve,le,li,sa,pp,ma,cr,en⟩:= a
 cases wa with
 | nil=>simp at h2
 | cons c W =>
 clear h2
 have hg:List.getD (c::W) (Int.toNat (0:Int)) Control.zero=c:=rfl
 have hd:List.drop (Int.toNat (1:Int)) (List.take (Int.toNat (↑(List.length (c::W)): Int)) (c::W))= W:=by
  rw [Int.toNat_natCast,List.take_length];rfl
 dsimp only at *
 rw [hg,hd]
 have hB:=hb hE 1
 have hw:=hW c (List.mem_cons_self ..)
 have hn:0 < n0:=by simp only [List.length_cons] at hl;omega
 subst hO hE
 cases hp:(bif pChanges c.Kind then decide ((0:Int) < (↑(List.length pe): Int)) else false)
 case true=>exact hM
 rw [cond_false]
 cases hs:(bif bif c.Kind==(12:Int) then vt else false then true else bif c.Kind==(3:Int) then cr != (0:Int) else false)
 case true =>
  rw [cond_true]
  refine ih _ ?_ ?_ ?_ ?_
  ·simp only [List.length_cons] at hl;show W.length < n0;omega
  ·intro x hx;exact hW x (List.mem_cons_of_mem _ hx)
  ·intro n;exact h0 (n+1)
  ·intro _ n;exact hb rfl (n+1)
 rw [cond_false]
 have hv:c.Kind=12→vt=false:=by
  intro e
  have:=(bif_or hs).1
  rw [e] at this
  simpa using this
 clear hs
 have pend:c.Kind=0∨c.Kind=1→pe=[]:= by
  intro e
  have:pChanges c.Kind=true:=by rcases e with e | e <;> rw [e] <;> rfl
  rw [this] at hp
  cases pe with
  | nil=>rfl
  | cons a l=>simp at hp
 have st : ∀(a:Procs) (out:List Control),a.Own≠ -1→M a out→M (procReady.go p0 ev now n0 a out).1 (procReady.go p0 ev now n0 a out).2:=by
  intro a out h hm
  rw [ready_stop p0 ev now n0 hn a out h]
  exact hm
 obtain ⟨hk,h12,h20⟩:= hw
 obtain ⟨k,u,m,i,rea,rj,sal,mrk,fea,ver,ln⟩:= c
 dsimp only at *
 rcases hk with ⟨rfl | rfl | rfl,hr⟩| rfl | rfl | rfl | rfl | rfl
 ·have H:=hB.b1 ⟨0,u,m,insPlan ev 0,rea,rj,sal,mrk,fea,ver,ln⟩ (.inl rfl) hr rfl (pend (.inl rfl)) rfl
  cases hx:(bif (0:Int)== (0:Int) then ot==(15:Int) else false)
  ·exact st _ _ (by simp) (H ot)
  ·exact st _ _ (by simp) (H (-1))
 ·have H:=hB.b1 ⟨1,u,m,insPlan ev 0,rea,rj,sal,mrk,fea,ver,ln⟩ (.inr rfl) hr rfl (pend (.inr rfl)) rfl
  exact st _ _ (by simp) (H ot)
 ·have H:=hB.b3 ⟨3,u,m,i,rea,rj,sal,mrk,fea,ver,ln⟩ rfl hr rfl
  exact st _ _ (by simp) H
 ·have H:=hB.bo ⟨8,u,m,i,rea,rj,sal,mrk,fea,ver,ln⟩ (.inl rfl) rfl
  exact st _ _ (by simp) H
 ·have H:=hB.bv ⟨12,u,m,i,rea,rj,sal,mrk,fea,ver,ln⟩ rfl (h12 rfl) rfl (hv rfl)
  exact st _ _ (by simp) H
 ·have H:=hB.bo ⟨15,u,m,i,rea,rj,sal,mrk,fea,ver,ln⟩ (.inr (.inl rfl)) rfl
  exact st _ _ (by simp) H
 ·have H:=hB.bo ⟨18,u,m,i,rea,rj,sal,mrk,fea,ver,ln⟩ (.inr (.inr rfl)) rfl
  exact st _ _ (by simp) H
 ·have H:=hB.bl ⟨20,u,m,i,rea,rj,sal,mrk,fea,ver,ln⟩ rfl (h20 rfl).1 (h20 rfl).2 rfl
  exact st _ _ (by simp) H
theorem ready_el (s:Procs) (ev now:Int) (M:Procs→List Control→Prop) (hW : ∀c∈s.Waiting,okW s.Role c) (h0 : ∀n,M {s with Waiting := s.Waiting.drop n} []) (hb:s.Ended=0→∀n,Beg {s with Waiting := s.Waiting.drop n} ev now M): M (procReady s ev now).1 (procReady s ev now).2 :=
 ready_go s ev now M _ s (Nat.lt_succ_self _) hW h0 hb
theorem due_el (s:Procs) (ev:Int) (M:Procs→List Change→Prop) (hp:s.Pending.length≤1)
  (h0:(∀p∈s.Pending,serPassed ev p.Instant=false)→M s [])
  (h1 : ∀c,s.Pending=[c]→serPassed ev c.Instant=true→s.Role≠1→s.Told=false→∀e,e≠0→M {s with Pending:=[],Ended:=e} [])
  (h2 : ∀c,s.Pending=[c]→serPassed ev c.Instant=true→(s.Role≠1→s.Told=true)→∀o o2,(o=s.Own∨o = -1∧s.Own=c.Kind)→M {s with Own:=o,Other:=o2,Pending:=[]} [c]): M (procDue s ev).1 (procDue s ev).2:=by
 obtain ⟨ro,ow,si,wa,ot,ott,pe,to,fe,co,kn,vt,ve,le,li,sa,pp,ma,cr,en⟩:= s
 dsimp only at *
 have nd:M ⟨ro,ow,si,wa,ot,ott,pe,to,fe,co,kn,vt,ve,le,li,sa,pp,ma,cr,en⟩ []→insDue pe ev=(pe,[])→M (procDue ⟨ro,ow,si,wa,ot,ott,pe,to,fe,co,kn,vt,ve,le,li,sa,pp,ma,cr,en⟩ ev).1 (procDue ⟨ro,ow,si,wa,ot,ott,pe,to,fe,co,kn,vt,ve,le,li,sa,pp,ma,cr,en⟩ ev).2:=by
  intro hm e
  unfold procDue
  dsimp only
  rw [e]
  exact hm
 match pe,hp with
 | [],_=>exact nd (h0 (fun p hp=>by cases hp)) (insDue_nil ev)
 | [c],_ =>
  cases hs:serPassed ev c.Instant
  ·refine nd (h0 (fun p hp=>by rw [List.mem_singleton.1 hp];exact hs)) ?_
   rw [insDue_one,hs];rfl
  ·have e:insDue [c] ev=([],[c]):= by rw [insDue_one,hs];rfl
   clear nd h0
   have h1:=h1 c rfl hs
   have h2:=h2 c rfl hs
   unfold procDue
   dsimp only
   rw [e]
   have d1:decide ((0:Int) < (↑(List.length [c]): Int))= true:=rfl
   have d2:decide (IntKind.wrap IntKind.i64 ((0:Int)+ (1:Int)) < (↑(List.length [c]): Int))= false:=rfl
   have d3:List.getD [c] (Int.toNat (0:Int)) Change.zero=c:=rfl
   dsimp only
   rw [d1,d2,d3]
   simp only [cond_true,cond_false]
   cases hr:(ro != (1:Int))
   ·have hr':ro=1:=by simpa using hr
    have h2:=h2 (fun h=>absurd hr' h)
    simp only [cond_false]
    cases ho:(ow==c.Kind) <;> cases ho2:(ot==c.Kind)
    ·exact h2 ow ot (.inl rfl)
    ·exact h2 ow (-1) (.inl rfl)
    ·exact h2 (-1) ot (.inr ⟨rfl,by simpa using ho⟩)
    ·exact h2 (-1) (-1) (.inr ⟨rfl,by simpa using ho⟩)
   ·have hr':ro≠1:=by simpa using hr
    cases to
    ·have h1:=h1 hr' rfl
     cases he:(en==(0:Int))
     ·exact h1 en (by simpa using he)
     ·exact h1 40 (by decide)
    ·have h2:=h2 (fun _=>rfl)
     simp only [Bool.not_true,cond_true,cond_false]
     cases ho:(ow==c.Kind) <;> cases ho2:(ot==c.Kind)
     ·exact h2 ow ot (.inl rfl)
     ·exact h2 ow (-1) (.inl rfl)
     ·exact h2 (-1) ot (.inr ⟨rfl,by simpa using ho⟩)
     ·exact h2 (-1) (-1) (.inr ⟨rfl,by simpa using ho⟩)
end Go.Aw.W
end
section
/- The invariants of the exchange, kept by its steps (own work). -/
set_option linter.unusedVariables false
namespace Go.Aw.W
open Go Go.Aw Go.Proofs
def wt (r k:Int): Nat:=if k=3 then 5 else if k=5 then 3 else if k=6 then (if r=1 then 1 else 2) else if k=8∨k=15∨k=18∨k=20 then 2 else 1
theorem wt_ge (r k:Int): 1≤wt r k:=by unfold wt;(repeat' split) <;> omega
theorem wt_le (r k:Int): wt r k≤5:=by unfold wt;(repeat' split) <;> omega
def qw (r:Int): List Control→Nat
 | []=> 0
 | c::l=>wt r c.Kind+qw r l
theorem qw_app (r:Int) (p q:List Control): qw r (p ++ q)= qw r p+qw r q:=by
 induction p with
 | nil=>simp [qw]
 | cons c p ih=>simp only [List.cons_append,qw,ih];omega
def nv (s:Procs): Nat:=if s.VersionTx=true then 0 else 1
def ph (r:Int) (a:Sd): Nat:=qw r a.q+nv a.s
theorem ph_put (r:Int) (b:Sd) (s':Procs) (l:List Control): ph r ((b.ws s').put l)= qw r b.q+qw r l+nv s':=by
 show qw r (b.q ++ l)+ nv s'=_
 rw [qw_app]
theorem ph_same {r r':Int} {b:Sd} {s':Procs} {c:Control} (h:s'.VersionTx=b.s.VersionTx): ph r ((b.ws s').put [])+ 1≤ph r b+wt r' c.Kind:=by
 rw [ph_put]
 have:=wt_ge r' c.Kind
 unfold ph nv
 rw [h]
 simp only [qw]
 omega
theorem ph_one {r r':Int} {b:Sd} {s':Procs} {c x:Control} (h:s'.VersionTx=b.s.VersionTx) (hw:wt r x.Kind+1≤wt r' c.Kind): ph r ((b.ws s').put [x])+ 1≤ph r b+wt r' c.Kind:=by
 rw [ph_put]
 unfold ph nv
 rw [h]
 simp only [qw]
 omega
theorem ph_hnd {r r':Int} (b:Sd) (hr:b.s.Role=r) (hp:r=1∧r'=0∨r=0∧r'=1) (c:Control) (now:Int): Hnd b.s c now (fun s' l=>ph r ((b.ws s').put l)+ 1≤ph r b+wt r' c.Kind):= by
 constructor
 case ign =>
  intros
  exact ph_same rfl
 case cf =>
  intros
  exact ph_same rfl
 case cg =>
  intros
  exact ph_same rfl
 case te =>
  intros
  exact ph_same rfl
 case a0 =>
  intros
  exact ph_same rfl
 case a1 =>
  intros
  rename_i hk _ _ x hx _
  refine ph_one rfl ?_
  rw [hx,hk]
  unfold wt;simp
 case a2 =>
  intros
  rename_i hk h1 _ _ x y hx hy
  rw [ph_put]
  unfold ph nv
  simp only [qw,hx,hy,hk]
  have e1:wt r 4=1:=by unfold wt;rfl
  have e2:wt r 5=3:=by unfold wt;rfl
  have e3:wt r' 3=5:=by unfold wt;rfl
  rw [e1,e2,e3]
  omega
 case sa =>
  intros
  exact ph_same rfl
 case st =>
  intros
  rename_i hk h1 _ x hx
  refine ph_one rfl ?_
  rw [hx,hk]
  rcases hp with ⟨e1,e2⟩| ⟨e1,e2⟩ <;> subst e1 e2
  ·exact absurd hr h1
  ·decide
 case oc =>
  intros
  exact ph_same rfl
 case op =>
  intros
  rename_i hk h1 _ x hx
  refine ph_one rfl ?_
  rw [hx,hk]
  rcases hp with ⟨e1,e2⟩| ⟨e1,e2⟩ <;> subst e1 e2
  ·decide
  ·rw [hr] at h1;cases h1
 case re =>
  intros
  exact ph_same rfl
 case fr =>
  intros
  rename_i hk x _ hx
  refine ph_one rfl ?_
  rw [hx,hk]
  unfold wt;simp
 case fa =>
  intros
  exact ph_same rfl
 case vo =>
  intros
  exact ph_same rfl
 case vn =>
  intros
  rename_i hk _ hv x hx _
  rw [ph_put]
  unfold ph nv
  rw [hv]
  simp only [qw,hx,hk]
  have e1:wt r 12=1:=by unfold wt;rfl
  have e2:wt r' 12=1:=by unfold wt;rfl
  rw [e1,e2]
  simp
 case vt =>
  intros
  exact ph_same rfl
 case pr =>
  intros
  rename_i hk x hx _
  refine ph_one rfl ?_
  rw [hx,hk]
  unfold wt;simp
 case pp =>
  intros
  exact ph_same rfl
 case pi =>
  intros
  rename_i hk x hx
  refine ph_one rfl ?_
  rw [hx,hk]
  unfold wt;simp
 case pd =>
  intros
  exact ph_same rfl
 case le =>
  intros
  rename_i hk x hx _
  refine ph_one rfl ?_
  rw [hx,hk]
  unfold wt;simp
 case la =>
  intros
  exact ph_same rfl
def JV (a b:Sd): Prop:=a.s.VersionTx=true→(∃c,c∈a.q∧c.Kind=12)∨(b.s.Version=11∧b.s.VersionTx=true)
theorem JV.more {a b a' b':Sd} (h:JV a b) (h1:a'.s.VersionTx=a.s.VersionTx) (h2 : ∀c,c∈a.q→c.Kind=12→c∈a'.q) (h3:b.s.Version=11→b'.s.Version=11) (h4:b.s.VersionTx=true→b'.s.VersionTx=true): JV a' b':=by
 intro hv
 rw [h1] at hv
 rcases h hv with ⟨c,hc,hk⟩| ⟨e1,e2⟩
 ·exact .inl ⟨c,h2 c hc hk,hk⟩
 ·exact .inr ⟨h3 e1,h4 e2⟩
theorem JV_hnd {a b:Sd} {c:Control} {q:List Control} {sa:Procs} (hq:a.q=c::q) (hs:Snt a.s c sa) (h1:JV a b) (h2:JV b a) (hov:b.s.Own=12→b.s.VersionTx=true) (now:Int): Hnd b.s c now (fun s' l=>JV ⟨sa,q,a.d,a.v⟩ ((b.ws s').put l)∧JV ((b.ws s').put l) ⟨sa,q,a.d,a.v⟩):= by
 obtain ⟨t,e,_,_,rfl⟩:= hs.e
 have back : ∀(s':Procs) (l:List Control),s'.VersionTx=b.s.VersionTx→JV ((b.ws s').put l) ⟨{a.s with Told:=t,Ended:=e},q,a.d,a.v⟩:= fun s' l h=>h2.more h (fun c hc _=>List.mem_append_left _ hc) id id
 have keep : ∀(s':Procs) (l:List Control),c.Kind≠12→s'.VersionTx=b.s.VersionTx→s'.Version=b.s.Version→JV ⟨{a.s with Told:=t,Ended:=e},q,a.d,a.v⟩ ((b.ws s').put l)∧JV ((b.ws s').put l) ⟨{a.s with Told:=t,Ended:=e},q,a.d,a.v⟩:= by
  intro s' l hk e1 e2
  refine ⟨h1.more rfl ?_ (fun h=>e2.trans h) (fun h=>e1.trans h),back s' l e1⟩
  intro c' hc hk'
  rw [hq] at hc
  rcases List.mem_cons.1 hc with e | hc
  ·rw [e] at hk';exact absurd hk' hk
  ·exact hc
 constructor
 case ign =>
  intros
  rename_i hk _ _ _ _
  exact keep _ _ hk rfl rfl
 case cf =>
  intros
  exact keep _ _ (by omega) rfl rfl
 case cg =>
  intros
  exact keep _ _ (by omega) rfl rfl
 case te =>
  intros
  exact keep _ _ (by omega) rfl rfl
 case a0 =>
  intros
  exact keep _ _ (by omega) rfl rfl
 case a1 =>
  intros
  exact keep _ _ (by omega) rfl rfl
 case a2 =>
  intros
  exact keep _ _ (by omega) rfl rfl
 case sa =>
  intros
  exact keep _ _ (by omega) rfl rfl
 case st =>
  intros
  exact keep _ _ (by omega) rfl rfl
 case oc =>
  intros
  exact keep _ _ (by omega) rfl rfl
 case op =>
  intros
  exact keep _ _ (by omega) rfl rfl
 case re =>
  intros
  exact keep _ _ (by omega) rfl rfl
 case fr =>
  intros
  exact keep _ _ (by omega) rfl rfl
 case fa =>
  intros
  exact keep _ _ (by omega) rfl rfl
 case vo =>
  intros
  rename_i hk ho
  exact ⟨fun _ => .inr ⟨rfl,hov ho⟩,back _ _ rfl⟩
 case vn =>
  intros
  rename_i hk _ _ x hx _
  exact ⟨fun _ => .inr ⟨rfl,rfl⟩,fun _ => .inl ⟨x,List.mem_append_right _ (List.mem_singleton.2 rfl),hx⟩⟩
 case vt =>
  intros
  rename_i hk _ hv
  exact ⟨fun _ => .inr ⟨rfl,hv⟩,back _ _ rfl⟩
 case pr =>
  intros
  exact keep _ _ (by omega) rfl rfl
 case pp =>
  intros
  exact keep _ _ (by omega) rfl rfl
 case pi =>
  intros
  exact keep _ _ (by omega) rfl rfl
 case pd =>
  intros
  exact keep _ _ (by omega) rfl rfl
 case le =>
  intros
  exact keep _ _ (by omega) rfl rfl
 case la =>
  intros
  exact keep _ _ (by omega) rfl rfl
theorem JV_beg {a b:Sd} (h1:JV a b) (h2:JV b a) (ev now:Int): Beg a.s ev now (fun s' l=>JV ((a.ws s').put l) b∧JV b ((a.ws s').put l)):= by
 have keep : ∀(s':Procs) (l:List Control),s'.VersionTx=a.s.VersionTx→s'.Version=a.s.Version→JV ((a.ws s').put l) b∧JV b ((a.ws s').put l):= fun s' l e1 e2=>⟨h1.more e1 (fun c hc _=>List.mem_append_left _ hc) id id,h2.more rfl (fun c hc _=>hc) (fun h=>e2.trans h) (fun h=>e1.trans h)⟩
 constructor
 case bv=>intro x hx _ _ hv;exact ⟨fun _ => .inl ⟨x,List.mem_append_right _ (List.mem_singleton.2 rfl),hx⟩,h2.more rfl (fun c hc _=>hc) id (fun _=>rfl)⟩
 all_goals (intros;exact keep _ _ rfl rfl)
def cn (k:Int): List Control→Nat
 | []=> 0
 | c::l=>(if c.Kind=k then 1 else 0)+ cn k l
def ln:List Control→List Int
 | []=> []
 | c::l=>if c.Kind=20∨c.Kind=21 then c.Length::ln l else ln l
theorem cn_app (k:Int) (p q:List Control): cn k (p ++ q)= cn k p+cn k q:=by
 induction p with
 | nil=>simp [cn]
 | cons c p ih=>simp only [List.cons_append,cn,ih];omega
theorem ln_app (p q:List Control): ln (p ++ q)= ln p ++ ln q:=by
 induction p with
 | nil=>rfl
 | cons c p ih =>
  simp only [List.cons_append,ln,ih]
  split <;> rfl
def noL (l:List Control): Prop:=cn 20 l=0∧cn 21 l=0∧ln l=[]
theorem noL_nil:noL []:= ⟨rfl,rfl,rfl⟩
theorem noL_cons {x:Control} {l:List Control} (h:x.Kind≠20∧x.Kind≠21) (hl:noL l): noL (x::l):= by
 refine ⟨?_, ?_, ?_⟩
 ·simp only [cn,if_neg h.1,hl.1]
 ·simp only [cn,if_neg h.2,hl.2.1]
 ·simp only [ln,if_neg (show ¬(x.Kind=20∨x.Kind=21) by omega),hl.2.2]
theorem noL_one {x:Control} (h:x.Kind≠20∧x.Kind≠21): noL [x]:= noL_cons h noL_nil
structure JL (a b:Sd): Prop where
 ea:a.s.Role≠1→a.s.Crypt=1∨a.s.Crypt=2∨a.s.Crypt=3→a.s.Own=3
 eb:b.s.Role≠1→b.s.Crypt=1∨b.s.Crypt=2∨b.s.Crypt=3→b.s.Own=3
 ca:cn 20 a.q+cn 21 b.q=if a.s.Own=20 then 1 else 0
 cb:cn 20 b.q+cn 21 a.q=if b.s.Own=20 then 1 else 0
 ta : ∀u x,ln a.q=u ++ [x]→x=a.s.Limit
 tb : ∀u x,ln b.q=u ++ [x]→x=b.s.Limit
 dd:(ln a.q=[]∧ln b.q=[]∧a.s.Own≠20∧b.s.Own≠20∧a.s.Length=27∧b.s.Length=27)∨((ln b.q=[]→a.s.Own≠20→a.s.Length=minI b.s.Limit a.s.Limit)∧(ln a.q=[]→b.s.Own≠20→b.s.Length=minI a.s.Limit b.s.Limit))
theorem JL.symm {a b:Sd} (h:JL a b): JL b a:=⟨h.eb,h.ea,h.cb,h.ca,h.tb,h.ta,h.dd.elim (fun ⟨x1,x2,x3,x4,x5,x6⟩=> .inl ⟨x2,x1,x4,x3,x6,x5⟩) (fun ⟨x1,x2⟩=> .inr ⟨x2,x1⟩)⟩
theorem JL.side {a b a':Sd} (h:JL a b) (e1:cn 20 a'.q=cn 20 a.q) (e2:cn 21 a'.q=cn 21 a.q) (e3:ln a'.q=ln a.q) (e4:a'.s.Limit=a.s.Limit) (e5:a'.s.Length=a.s.Length) (e6:a'.s.Own=20 ↔ a.s.Own=20) (ea:a'.s.Role≠1→a'.s.Crypt=1∨a'.s.Crypt=2∨a'.s.Crypt=3→a'.s.Own=3): JL a' b:=by
 refine ⟨ea,h.eb, ?_, ?_, ?_, ?_, ?_⟩
 ·rw [e1,h.ca];simp only [e6]
 ·rw [e2];exact h.cb
 ·rw [e3,e4];exact h.ta
 ·exact h.tb
 ·rw [e3,e4,e5]
  rcases h.dd with ⟨x1,x2,x3,x4,x5,x6⟩| ⟨x1,x2⟩
  ·exact .inl ⟨x1,x2,fun e=>x3 (e6.1 e),x4,x5,x6⟩
  ·exact .inr ⟨fun y1 y2=>x1 y1 (fun e=>y2 (e6.2 e)),x2⟩
theorem JL.put {a b:Sd} (h:JL a b) {s':Procs} {l:List Control} (hl:noL l) (e4:s'.Limit=a.s.Limit) (e5:s'.Length=a.s.Length) (e6:s'.Own=20 ↔ a.s.Own=20) (ea:s'.Role≠1→s'.Crypt=1∨s'.Crypt=2∨s'.Crypt=3→s'.Own=3): JL ((a.ws s').put l) b:=by
 refine h.side ?_ ?_ ?_ e4 e5 e6 ea
 ·show cn 20 (a.q ++ l)= _;rw [cn_app,hl.1];rfl
 ·show cn 21 (a.q ++ l)= _;rw [cn_app,hl.2.1];rfl
 ·show ln (a.q ++ l)= _;rw [ln_app,hl.2.2,List.append_nil]
theorem last_of {p u:List Int} {x y:Int} (h:p ++ [y]= u ++ [x]): x=y:=by
 have:=congrArg List.getLast? h
 simpa using this.symm
theorem JL_hnd {a b:Sd} {c:Control} {q:List Control} {sa:Procs} (hq:a.q=c::q) (hs:Snt a.s c sa) (h:JL a b) (now:Int): Hnd b.s c now (fun s' l=>s'.Ended≠0∨JL ⟨sa,q,a.d,a.v⟩ ((b.ws s').put l)):= by
 obtain ⟨t,e,_,_,rfl⟩:= hs.e
 have n20 : ∀k,cn k a.q=(if c.Kind=k then 1 else 0)+ cn k q:=by intro k;rw [hq];rfl
 have nln:ln a.q=if c.Kind=20∨c.Kind=21 then c.Length::ln q else ln q:=by rw [hq];rfl
 -- the sender's part where nothing of lengths is taken
 have tk:c.Kind≠20→c.Kind≠21→JL ⟨{a.s with Told:=t,Ended:=e},q,a.d,a.v⟩ b:=by
  intro h1 h2
  refine h.side ?_ ?_ ?_ rfl rfl Iff.rfl h.ea
  ·rw [n20,if_neg h1,Nat.zero_add]
  ·rw [n20,if_neg h2,Nat.zero_add]
  ·rw [nln,if_neg (by omega)]
 have neu : ∀(s':Procs) (l:List Control),c.Kind≠20→c.Kind≠21→noL l→s'.Limit=b.s.Limit→s'.Length=b.s.Length→(s'.Own=20 ↔ b.s.Own=20)→(s'.Role≠1→s'.Crypt=1∨s'.Crypt=2∨s'.Crypt=3→s'.Own=3)→s'.Ended≠0∨JL ⟨{a.s with Told:=t,Ended:=e},q,a.d,a.v⟩ ((b.ws s').put l):= fun s' l h1 h2 hl e4 e5 e6 ea => .inr ((tk h1 h2).symm.put hl e4 e5 e6 ea).symm
 have lastA:c.Kind=20∨c.Kind=21→ln q=[]→c.Length=a.s.Limit:=by
  intro hk hn
  refine h.ta [] c.Length ?_
  rw [nln,if_pos hk,hn];rfl
 have tlA : ∀u x,ln q=u ++ [x]→x=a.s.Limit:=by
  intro u x hx
  by_cases hk:c.Kind=20∨c.Kind=21
  ·exact h.ta (c.Length::u) x (by rw [nln,if_pos hk,hx];rfl)
  ·exact h.ta u x (by rw [nln,if_neg hk,hx])
 constructor
 case ign =>
  intros
  rename_i _ _ h20 _ h21
  refine neu _ _ h20 ?_ noL_nil rfl rfl Iff.rfl h.eb
  intro hk
  have h1:=h.cb
  rw [n20 21,if_pos hk,if_neg (h21 hk)] at h1
  omega
 case cf =>
  intros
  rename_i hr
  exact .inl hr
 case cg =>
  intros
  rename_i hk hr _ o ho
  refine neu _ _ (by omega) (by omega) noL_nil rfl rfl ⟨fun e=>?_,fun e=>?_⟩ (fun hr'=>absurd hr hr')
  ·have e:o=20:=e
   rcases ho with ho | ⟨ho,_⟩ <;> omega
  ·show o=20
   rcases ho with ho | ⟨_,ho⟩ <;> omega
 case te =>
  intros
  rename_i hr
  exact .inl hr
 case a0 =>
  intros
  rename_i hk hr _
  exact neu _ _ (by omega) (by omega) noL_nil rfl rfl Iff.rfl (fun hr'=>absurd hr hr')
 case a1 =>
  intros
  rename_i hk hr _ x hx _
  exact neu _ _ (by omega) (by omega) (noL_one (by omega)) rfl rfl Iff.rfl (fun hr'=>absurd hr hr')
 case a2 =>
  intros
  rename_i hk hr _ _ x y hx hy
  exact neu _ _ (by omega) (by omega) (noL_cons (by omega) (noL_one (by omega))) rfl rfl Iff.rfl (fun hr'=>absurd hr hr')
 case sa =>
  intros
  rename_i hk hr hc
  exact neu _ _ (by omega) (by omega) noL_nil rfl rfl Iff.rfl (fun _ _=>h.eb hr (by omega))
 case st =>
  intros
  rename_i hk hr hc x hx
  exact neu _ _ (by omega) (by omega) (noL_one (by omega)) rfl rfl Iff.rfl (fun _ _=>h.eb hr (by omega))
 case oc =>
  intros
  rename_i hk hr hc
  have ho:=h.eb hr (by omega)
  refine neu _ _ (by omega) (by omega) noL_nil rfl rfl ⟨fun e=>(by cases e),fun e=>by omega⟩ (fun _ e=>?_)
  have e:(4:Int)= 1∨(4:Int)= 2∨(4:Int)= 3:=e
  omega
 case op =>
  intros
  rename_i hk hr _ x hx
  exact neu _ _ (by omega) (by omega) (noL_one (by omega)) rfl rfl Iff.rfl (fun hr'=>absurd hr hr')
 case re =>
  intros
  rename_i hk ho k hc
  refine neu _ _ (by omega) (by omega) noL_nil rfl rfl ⟨fun e=>(by cases e),fun e=>by omega⟩ (fun hr e=>?_)
  have e:k=1∨k=2∨k=3:=e
  have h3:=h.eb hr
  exfalso
  omega
 case fr =>
  intros
  rename_i hk x _ hx
  exact neu _ _ (by omega) (by omega) (noL_one (by omega)) rfl rfl Iff.rfl h.eb
 case fa =>
  intros
  rename_i hk ho _
  refine neu _ _ (by omega) (by omega) noL_nil rfl rfl ⟨fun e=>(by cases e),fun e=>by omega⟩ (fun hr e=>?_)
  have h3:=h.eb hr e
  omega
 case vo =>
  intros
  rename_i hk ho
  refine neu _ _ (by omega) (by omega) noL_nil rfl rfl ⟨fun e=>(by cases e),fun e=>by omega⟩ (fun hr e=>?_)
  have h3:=h.eb hr e
  omega
 case vn =>
  intros
  rename_i hk _ _ x hx _
  exact neu _ _ (by omega) (by omega) (noL_one (by omega)) rfl rfl Iff.rfl h.eb
 case vt =>
  intros
  rename_i hk _ _
  exact neu _ _ (by omega) (by omega) noL_nil rfl rfl Iff.rfl h.eb
 case pr =>
  intros
  rename_i hk x hx _
  exact neu _ _ (by omega) (by omega) (noL_one (by omega)) rfl rfl Iff.rfl h.eb
 case pp =>
  intros
  rename_i hk
  exact neu _ _ (by omega) (by omega) noL_nil rfl rfl Iff.rfl h.eb
 case pi =>
  intros
  rename_i hk x hx
  exact neu _ _ (by omega) (by omega) (noL_one (by omega)) rfl rfl Iff.rfl h.eb
 case pd =>
  intros
  rename_i hk ho
  refine neu _ _ (by omega) (by omega) noL_nil rfl rfl ⟨fun e=>(by cases e),fun e=>by omega⟩ (fun hr e=>?_)
  have h3:=h.eb hr e
  omega
 case le =>
  intros
  rename_i hk x hx hl
  refine .inr ⟨h.ea,h.eb, ?_, ?_,tlA, ?_, .inr ⟨?_, ?_⟩⟩
  ·show cn 20 q+cn 21 (b.q ++ [x])= if a.s.Own=20 then 1 else 0
   have h1:=h.ca
   rw [n20,if_pos hk] at h1
   rw [cn_app,←h1]
   simp only [cn,hx]
   simp;omega
  ·show cn 20 (b.q ++ [x])+ cn 21 q=if b.s.Own=20 then 1 else 0
   have h1:=h.cb
   rw [n20,if_neg (by omega)] at h1
   rw [cn_app,←h1]
   simp only [cn,hx]
   simp
  ·show ∀u y,ln (b.q ++ [x])= u ++ [y]→y=b.s.Limit
   intro u y hy
   rw [ln_app] at hy
   simp only [ln,hx] at hy
   rw [←hl]
   exact last_of hy
  ·show ln (b.q ++ [x])= []→_
   intro hy
   rw [ln_app] at hy
   simp [ln,hx] at hy
  ·show ln q=[]→b.s.Own≠20→minI c.Length b.s.Limit=minI a.s.Limit b.s.Limit
   intro hy _
   rw [lastA (.inl hk) hy]
 case la =>
  intros
  rename_i hk ho
  have h1:=h.cb
  rw [n20,if_pos hk,if_pos ho] at h1
  have h2:=h.ca
  rw [n20,if_neg (by omega)] at h2
  refine .inr ⟨h.ea,fun hr e=>by have:=h.eb hr e;omega, ?_, ?_,tlA, ?_, .inr ⟨?_, ?_⟩⟩
  ·show cn 20 q+cn 21 (b.q ++ [])= if a.s.Own=20 then 1 else 0
   rw [List.append_nil,←h2];omega
  ·show cn 20 (b.q ++ [])+ cn 21 q=0
   rw [List.append_nil];omega
  ·show ∀u y,ln (b.q ++ [])= u ++ [y]→y=b.s.Limit
   rw [List.append_nil];exact h.tb
  ·show ln (b.q ++ [])= []→a.s.Own≠20→a.s.Length=minI b.s.Limit a.s.Limit
   rw [List.append_nil]
   rcases h.dd with ⟨_,_,_,x4,_⟩| ⟨x1,_⟩
   ·exact absurd ho x4
   ·exact x1
  ·show ln q=[]→(-1:Int)≠20→minI c.Length b.s.Limit=minI a.s.Limit b.s.Limit
   intro hy _
   rw [lastA (.inr hk) hy]
theorem JL_beg {a b:Sd} (h:JL a b) (ev now:Int): Beg a.s ev now (fun s' l=>JL ((a.ws s').put l) b):= by
 have ea:a.s.Own = -1→a.s.Role≠1→a.s.Crypt=1∨a.s.Crypt=2∨a.s.Crypt=3→False:=fun ho hr e=>by have:=h.ea hr e;omega
 constructor
 case b1 =>
  intro x hk hr ho _ _ o
  exact h.put (noL_one (by omega)) rfl rfl ⟨fun e=>by have e:x.Kind=20:=e;omega,fun e=>by omega⟩ (fun hr e=>(ea ho hr e).elim)
 case b3 =>
  intro x hk hr ho
  exact h.put (noL_one (by omega)) rfl rfl ⟨fun e=>by have e:(3:Int)= 20:=e;omega,fun e=>by omega⟩ (fun _ _=>rfl)
 case bv =>
  intro x hk _ ho _
  exact h.put (noL_one (by omega)) rfl rfl ⟨fun e=>by have e:(12:Int)= 20:=e;omega,fun e=>by omega⟩ (fun hr e=>(ea ho hr e).elim)
 case bo =>
  intro x hk ho
  exact h.put (noL_one (by omega)) rfl rfl ⟨fun e=>by have e:x.Kind=20:=e;omega,fun e=>by omega⟩ (fun hr e=>(ea ho hr e).elim)
 case bl =>
  intro x hk _ _ ho
  have h1:=h.ca
  rw [if_neg (by omega)] at h1
  refine ⟨fun hr e=>(ea ho hr e).elim,h.eb, ?_, ?_, ?_,h.tb, .inr ⟨?_, ?_⟩⟩
  ·show cn 20 (a.q ++ [x])+ cn 21 b.q=1
   rw [cn_app]
   simp only [cn,hk]
   simp;omega
  ·show cn 20 b.q+cn 21 (a.q ++ [x])= if b.s.Own=20 then 1 else 0
   rw [cn_app,←h.cb]
   simp only [cn,hk]
   simp
  ·show ∀u y,ln (a.q ++ [x])= u ++ [y]→y=x.Length
   intro u y hy
   rw [ln_app] at hy
   simp only [ln,hk] at hy
   exact last_of hy
  ·intro _ hn;exact absurd rfl hn
  ·show ln (a.q ++ [x])= []→_
   intro hy
   rw [ln_app] at hy
   simp [ln,hk] at hy
end Go.Aw.W
end
section
/- The invariants of the exchange: changes; all together (own work). -/
set_option linter.unusedVariables false
namespace Go.Aw.W
open Go Go.Aw Go.Proofs
def inst (ev i:Int): Prop:=∃j:Int,1≤j∧j≤6∧i=(ev+j) % 65536
theorem passed_eq (ev i:Int) (h0:0≤ev) (h1:ev < 65536) (j:Int) (hj0:0≤j) (hj:j≤6) (h:i=(ev+j) % 65536): serPassed ev i=decide (j=0):= by
 unfold serPassed serDiff
 have e1:IntKind.wrap IntKind.u16 (ev - i)= (ev - i) % 65536:=wu16m _
 have e2:IntKind.wrap IntKind.i16 (IntKind.wrap IntKind.u16 (ev - i))= -j:=by
  rw [e1]
  have e3:(ev - i) % 65536=(-j) % 65536:=by omega
  rw [e3]
  have:j=0∨j=1∨j=2∨j=3∨j=4∨j=5∨j=6:=by omega
  rcases this with rfl | rfl | rfl | rfl | rfl | rfl | rfl <;> rfl
 rw [e2,wi64 _ (by omega) (by omega)]
 by_cases hz:j=0
 ·subst hz;rfl
 ·rw [decide_eq_false hz];simp;omega
theorem inst_next {ev i:Int} (h0:0≤ev) (h1:ev < 65536) (h:inst ev i): (serPassed ((ev+1) % 65536) i=true→i=(ev+1) % 65536)∧(serPassed ((ev+1) % 65536) i=false→inst ((ev+1) % 65536) i):= by
 obtain ⟨j,a,b,e⟩:= h
 have hp:=passed_eq ((ev+1) % 65536) i (by omega) (by omega) (j - 1) (by omega) (by omega) (by omega)
 rw [hp]
 constructor
 ·intro hj
  have:j - 1=0:=by simpa using hj
  rw [e];congr 1;omega
 ·intro hj
  have:j - 1≠0:=by simpa using hj
  exact ⟨j - 1,by omega,by omega,by omega⟩
theorem plan_eq (ev:Int): insPlan ev 0=(ev+6) % 65536:=by
 unfold insPlan serAdd
 have:IntKind.wrap IntKind.u16 (IntKind.wrap IntKind.i64 ((6:Int)+ minI (maxI (0:Int) (0:Int)) (499:Int)))= 6:=by decide
 rw [this,wu16m]
theorem add_plan (ev:Int) (h0:0≤ev) (h1:ev < 65536) (x:Control) (hk:x.Kind=0∨x.Kind=1) (hi:x.Instant=insPlan ev 0): (insAdd [] ev (pChange x)).1=[pChange x]:= by
 have hp:serPassed ev x.Instant=false:=by
  rw [passed_eq ev x.Instant h0 h1 6 (by omega) (by omega) (by rw [hi,plan_eq])];rfl
 have hc:insCheck ev (pChange x)= 0:=by
  unfold insCheck
  have:(bif (pChange x).Kind != (0:Int) then (pChange x).Kind != (1:Int) else false)= false:=by
   show (bif x.Kind != (0:Int) then x.Kind != (1:Int) else false)= false
   rcases hk with e | e <;> rw [e] <;> rfl
  rw [this,cond_false]
  show cond (serPassed ev x.Instant) _ _=_
  rw [hp];rfl
 unfold insAdd
 rw [hc]
 rfl
def chg:List Control→List Control
 | []=> []
 | c::l=>if c.Kind=0∨c.Kind=1 then c::chg l else chg l
theorem chg_app (p q:List Control): chg (p ++ q)= chg p ++ chg q:=by
 induction p with
 | nil=>rfl
 | cons c p ih =>
  simp only [List.cons_append,chg,ih]
  split <;> rfl
theorem chg_no {x:Control} {l:List Control} (h:x.Kind≠0∧x.Kind≠1) (hl:chg l=[]): chg (x::l)= []:= by
 simp only [chg,if_neg (show ¬(x.Kind=0∨x.Kind=1) by omega),hl]
theorem chg_one {x:Control} (h:x.Kind≠0∧x.Kind≠1): chg [x]= []:= chg_no h rfl
structure JT (a b:Sd) (ev:Int): Prop where
 ia : ∀p∈a.s.Pending,inst ev p.Instant
 ib : ∀p∈b.s.Pending,inst ev p.Instant
 dn:a.d=b.d
 de : ∀x∈a.d,x.event=x.change.Instant
 fl:(chg a.q=[]∧a.s.Pending=b.s.Pending)∨(∃c,chg a.q=[c]∧a.s.Pending=[pChange c]∧a.s.Told=false∧b.s.Pending=[])
theorem JT.sideA {a b a':Sd} {ev:Int} (h:JT a b ev) (e1:a'.s.Pending=a.s.Pending) (e2:a'.s.Told=a.s.Told) (e3:a'.d=a.d) (e4:chg a'.q=chg a.q): JT a' b ev :=
 ⟨by rw [e1];exact h.ia,h.ib,by rw [e3];exact h.dn,by rw [e3];exact h.de,by rw [e1,e2,e4];exact h.fl⟩
theorem JT.sideB {a b b':Sd} {ev:Int} (h:JT a b ev) (e1:b'.s.Pending=b.s.Pending) (e3:b'.d=b.d): JT a b' ev :=
 ⟨h.ia,by rw [e1];exact h.ib,by rw [e3];exact h.dn,h.de,by rw [e1];exact h.fl⟩
theorem JT_hndB {a b:Sd} {ev:Int} {c:Control} {q:List Control} {sa:Procs} (hq:a.q=c::q) (hs:Snt a.s c sa) (h:JT a b ev) (hr:b.s.Role=1) (now:Int): Hnd b.s c now (fun s' l=>s'.Ended≠0∨JT ⟨sa,q,a.d,a.v⟩ ((b.ws s').put l) ev):= by
 obtain ⟨t,e,ht,_,rfl⟩:= hs.e
 have hc:chg a.q=if c.Kind=0∨c.Kind=1 then c::chg q else chg q:=by rw [hq];rfl
 have keep : ∀(s':Procs) (l:List Control),c.Kind≠0→c.Kind≠1→s'.Pending=b.s.Pending→s'.Ended≠0∨JT ⟨{a.s with Told:=t,Ended:=e},q,a.d,a.v⟩ ((b.ws s').put l) ev:=by
  intro s' l k0 k1 e1
  have hn:pChanges c.Kind≠true:=by
   unfold pChanges
   have z0:(c.Kind==(0:Int))= false:=by simpa using k0
   have z1:(c.Kind==(1:Int))= false:=by simpa using k1
   rw [z0,z1];decide
  refine .inr (JT.sideB (b:=b) (JT.sideA h rfl (ht.resolve_right hn) rfl ?_) e1 rfl)
  show chg q=chg a.q
  rw [hc,if_neg (by omega)]
 constructor
 case ign =>
  intros
  rename_i _ _ _ h0 _
  refine keep _ _ ?_ ?_ rfl
  ·exact fun hk=>h0 (.inl hk) hr
  ·exact fun hk=>h0 (.inr hk) hr
 case cf =>
  intros
  rename_i hr
  exact .inl hr
 case cg =>
  intros
  rename_i hk _ hp o ho
  rw [if_pos hk] at hc
  rcases h.fl with ⟨h1,_⟩| ⟨c',h1,h2,_,_⟩
  ·rw [hc] at h1;cases h1
  ·rw [hc] at h1
   injection h1 with h1 h3
   subst h1
   refine .inr ⟨h.ia, ?_,h.dn,h.de, .inl ⟨h3,h2⟩⟩
   show ∀p∈[pChange c],inst ev p.Instant
   rw [←h2];exact h.ia
 case te =>
  intros
  rename_i hr
  exact .inl hr
 case a0 =>
  intros
  exact keep _ _ (by omega) (by omega) rfl
 case a1 =>
  intros
  exact keep _ _ (by omega) (by omega) rfl
 case a2 =>
  intros
  exact keep _ _ (by omega) (by omega) rfl
 case sa =>
  intros
  exact keep _ _ (by omega) (by omega) rfl
 case st =>
  intros
  exact keep _ _ (by omega) (by omega) rfl
 case oc =>
  intros
  exact keep _ _ (by omega) (by omega) rfl
 case op =>
  intros
  exact keep _ _ (by omega) (by omega) rfl
 case re =>
  intros
  exact keep _ _ (by omega) (by omega) rfl
 case fr =>
  intros
  exact keep _ _ (by omega) (by omega) rfl
 case fa =>
  intros
  exact keep _ _ (by omega) (by omega) rfl
 case vo =>
  intros
  exact keep _ _ (by omega) (by omega) rfl
 case vn =>
  intros
  exact keep _ _ (by omega) (by omega) rfl
 case vt =>
  intros
  exact keep _ _ (by omega) (by omega) rfl
 case pr =>
  intros
  exact keep _ _ (by omega) (by omega) rfl
 case pp =>
  intros
  exact keep _ _ (by omega) (by omega) rfl
 case pi =>
  intros
  exact keep _ _ (by omega) (by omega) rfl
 case pd =>
  intros
  exact keep _ _ (by omega) (by omega) rfl
 case le =>
  intros
  exact keep _ _ (by omega) (by omega) rfl
 case la =>
  intros
  exact keep _ _ (by omega) (by omega) rfl
theorem JT_hndA {a b:Sd} {ev:Int} {c:Control} {q:List Control} {sb:Procs} (hs:Snt b.s c sb) (h:JT a b ev) (hr:a.s.Role=0) (now:Int): Hnd a.s c now (fun s' l=>JT ((a.ws s').put l) ⟨sb,q,b.d,b.v⟩ ev):= by
 obtain ⟨t,e,_,_,rfl⟩:= hs.e
 have keep : ∀(s':Procs) (l:List Control),chg l=[]→s'.Pending=a.s.Pending→s'.Told=a.s.Told→JT ((a.ws s').put l) ⟨{b.s with Told:=t,Ended:=e},q,b.d,b.v⟩ ev:=by
  intro s' l hl e1 e2
  refine JT.sideB (b:=b) (JT.sideA h e1 e2 rfl ?_) rfl rfl
  show chg (a.q ++ l)= chg a.q
  rw [chg_app,hl,List.append_nil]
 constructor
 case ign =>
  intros
  exact keep _ _ rfl rfl rfl
 case cf =>
  intros
  rename_i h1 _ _;rw [hr] at h1;cases h1
 case cg =>
  intros
  rename_i h1 _ _ _;rw [hr] at h1;cases h1
 case te =>
  intros
  exact keep _ _ rfl rfl rfl
 case a0 =>
  intros
  rename_i h1 _;rw [hr] at h1;cases h1
 case a1 =>
  intros
  rename_i h1 _ _ _ _;rw [hr] at h1;cases h1
 case a2 =>
  intros
  rename_i h1 _ _ _ _ _ _;rw [hr] at h1;cases h1
 case sa =>
  intros
  exact keep _ _ rfl rfl rfl
 case st =>
  intros
  exact keep _ _ (chg_one (by omega)) rfl rfl
 case oc =>
  intros
  exact keep _ _ rfl rfl rfl
 case op =>
  intros
  exact keep _ _ (chg_one (by omega)) rfl rfl
 case re =>
  intros
  exact keep _ _ rfl rfl rfl
 case fr =>
  intros
  exact keep _ _ (chg_one (by omega)) rfl rfl
 case fa =>
  intros
  exact keep _ _ rfl rfl rfl
 case vo =>
  intros
  exact keep _ _ rfl rfl rfl
 case vn =>
  intros
  exact keep _ _ (chg_one (by omega)) rfl rfl
 case vt =>
  intros
  exact keep _ _ rfl rfl rfl
 case pr =>
  intros
  exact keep _ _ (chg_one (by omega)) rfl rfl
 case pp =>
  intros
  exact keep _ _ rfl rfl rfl
 case pi =>
  intros
  exact keep _ _ (chg_one (by omega)) rfl rfl
 case pd =>
  intros
  exact keep _ _ rfl rfl rfl
 case le =>
  intros
  exact keep _ _ (chg_one (by omega)) rfl rfl
 case la =>
  intros
  exact keep _ _ rfl rfl rfl
theorem JT_begA {a b:Sd} {ev:Int} (h:JT a b ev) (h0:0≤ev) (h1:ev < 65536) (now:Int): Beg a.s ev now (fun s' l=>JT ((a.ws s').put l) b ev):= by
 have keep : ∀(s':Procs) (l:List Control),chg l=[]→s'.Pending=a.s.Pending→s'.Told=a.s.Told→JT ((a.ws s').put l) b ev:=by
  intro s' l hl e1 e2
  refine JT.sideA h e1 e2 rfl ?_
  show chg (a.q ++ l)= chg a.q
  rw [chg_app,hl,List.append_nil]
 constructor
 case b1 =>
  intro x hk hr ho hp hi o
  have hadd:=add_plan ev h0 h1 x hk hi
  rcases h.fl with ⟨f1,f2⟩| ⟨c',_,f2,_,_⟩
  ·rw [hp] at f2 ⊢
   refine ⟨?_,h.ib,h.dn,h.de, .inr ⟨x, ?_, ?_,rfl,f2.symm⟩⟩
   ·show ∀p∈(insAdd [] ev (pChange x)).1,inst ev p.Instant
    rw [hadd]
    intro p hp
    rw [List.mem_singleton.1 hp]
    exact ⟨6,by omega,by omega,by show x.Instant=_;rw [hi,plan_eq]⟩
   ·show chg (a.q ++ [x])= [x]
    rw [chg_app,f1]
    simp only [chg,if_pos hk,List.nil_append]
   ·show (insAdd [] ev (pChange x)).1=_
    exact hadd
  ·rw [hp] at f2;cases f2
 all_goals (intros;exact keep _ _ (chg_one (by omega)) rfl rfl)
theorem JT_begB {a b:Sd} {ev:Int} (h:JT a b ev) (hr:b.s.Role=1) (now:Int): Beg b.s ev now (fun s' l=>JT a ((b.ws s').put l) ev):= by
 constructor
 case b1=>intro x hk hr';exact absurd hr hr'
 all_goals (intros;exact JT.sideB h rfl rfl)
def dnl (d:List Law28applied) (ev:Int) (l:List Change): List Law28applied:=match l with
 | []=> d
 | x::_=>d ++ [{event:=ev,change:=x}]
def Sd.du (a:Sd) (ev:Int): Sd:=⟨(procDue a.s ev).1,a.q,dnl a.d ev (procDue a.s ev).2,a.v⟩
structure Du (s:Procs) (ev:Int) (s':Procs) (l:List Change): Prop where
 e:(s'=s∧l=[]∧∀p∈s.Pending,serPassed ev p.Instant=false)∨
  (∃c e,s.Pending=[c]∧serPassed ev c.Instant=true∧s.Role≠1∧s.Told=false∧e≠0∧s'={s with Pending:=[],Ended:=e}∧l=[])∨
  (∃c o o2,s.Pending=[c]∧serPassed ev c.Instant=true∧(s.Role≠1→s.Told=true)∧(o=s.Own∨o = -1∧s.Own=c.Kind)∧s'={s with Own:=o,Other:=o2,Pending:=[]}∧l=[c])
theorem du_is (s:Procs) (ev:Int) (hp:s.Pending.length≤1): Du s ev (procDue s ev).1 (procDue s ev).2 :=
 due_el s ev (fun s' l=>Du s ev s' l) hp (fun h=>⟨.inl ⟨rfl,rfl,h⟩⟩) (fun c h1 h2 h3 h4 e he=>⟨.inr (.inl ⟨c,e,h1,h2,h3,h4,he,rfl,rfl⟩)⟩) (fun c h1 h2 h3 o o2 ho=>⟨.inr (.inr ⟨c,o,o2,h1,h2,h3,ho,rfl,rfl⟩)⟩)
theorem Ok.du {r:Int} {a:Sd} (h:Ok r a) (ev:Int): Ok r (a.du ev)∧ph r (a.du ev)= ph r a∧(a.s.Ended≠0→(a.du ev).s.Ended≠0):= by
 have hd:=(du_is a.s ev h.pl).e
 unfold Sd.du ph
 generalize (procDue a.s ev).1=s' at hd
 generalize (procDue a.s ev).2=l at hd
 rcases hd with ⟨rfl,rfl,_⟩| ⟨c,e,hp,_,_,_,he,rfl,rfl⟩| ⟨c,o,o2,hp,_,_,ho,rfl,rfl⟩
 ·exact ⟨⟨h.role,h.wl,h.ww,h.pl,h.pk,h.qq,h.vv,h.ov,h.ll⟩,rfl,id⟩
 ·exact ⟨⟨h.role,h.wl,h.ww,Nat.zero_le _,(fun p hp=>by cases hp),h.qq,h.vv,h.ov,h.ll⟩,rfl,fun _=>he⟩
 ·refine ⟨⟨h.role,h.wl,h.ww,Nat.zero_le _,(fun p hp=>by cases hp),h.qq,h.vv,fun e=>?_,h.ll⟩,rfl,id⟩
  have e:o=12:=e
  rcases ho with ho | ⟨ho,_⟩
  ·exact h.ov (by rw [←ho];exact e)
  ·omega
theorem JV.duA {a b:Sd} (h:JV a b) (ev:Int) (hp:a.s.Pending.length≤1) (hp2:b.s.Pending.length≤1): JV (a.du ev) (b.du ev):= by
 have k : ∀a:Sd,a.s.Pending.length≤1→(a.du ev).s.VersionTx=a.s.VersionTx∧(a.du ev).s.Version=a.s.Version:=by
  intro a hp
  rcases (du_is a.s ev hp).e with ⟨e,_⟩| ⟨c,_,_,_,_,_,_,e,_⟩| ⟨c,_,_,_,_,_,_,e,_⟩ <;> (unfold Sd.du;dsimp only;rw [e];exact ⟨rfl,rfl⟩)
 exact h.more (k a hp).1 (fun c hc _=>hc) (fun e=>(k b hp2).2.trans e) (fun e=>(k b hp2).1.trans e)
theorem JL.du1 {a b:Sd} (h:JL a b) (ev:Int) (hp:a.s.Pending.length≤1) (hk : ∀p∈a.s.Pending,p.Kind=0∨p.Kind=1): JL (a.du ev) b:=by
 have hd:=(du_is a.s ev hp).e
 unfold Sd.du
 generalize (procDue a.s ev).1=s' at hd
 generalize (procDue a.s ev).2=l at hd
 rcases hd with ⟨rfl,rfl,_⟩| ⟨c,e,hp,_,_,_,he,rfl,rfl⟩| ⟨c,o,o2,hp,_,_,ho,rfl,rfl⟩
 ·exact h.side rfl rfl rfl rfl rfl Iff.rfl h.ea
 ·exact h.side rfl rfl rfl rfl rfl Iff.rfl h.ea
 ·have hk:=hk c (by rw [hp];exact List.mem_singleton.2 rfl)
  refine h.side rfl rfl rfl rfl rfl ?_ ?_
  ·show o=20 ↔ _
   omega
  ·intro hr hc
   have:=h.ea hr hc
   show o=3
   omega
theorem JL.du {a b:Sd} (h:JL a b) (ev:Int) {ra rb:Int} (oa:Ok ra a) (ob:Ok rb b): JL (a.du ev) (b.du ev):= ((h.du1 ev oa.pl oa.pk).symm.du1 ev ob.pl ob.pk).symm
theorem JT.du {a b:Sd} {ev:Int} (h:JT a b ev) (h0:0≤ev) (h1:ev < 65536) (oa:Ok 0 a) (ob:Ok 1 b): (a.du ((ev+1) % 65536)).s.Ended≠0∨JT (a.du ((ev+1) % 65536)) (b.du ((ev+1) % 65536)) ((ev+1) % 65536):= by
 have da:=(du_is a.s ((ev+1) % 65536) oa.pl).e
 have db:=(du_is b.s ((ev+1) % 65536) ob.pl).e
 unfold Sd.du
 generalize (procDue a.s ((ev+1) % 65536)).1=sa at da
 generalize (procDue a.s ((ev+1) % 65536)).2=la at da
 generalize (procDue b.s ((ev+1) % 65536)).1=sb at db
 generalize (procDue b.s ((ev+1) % 65536)).2=lb at db
 have stay : ∀l:List Change,(∀p∈l,inst ev p.Instant)→(∀p∈l,serPassed ((ev+1) % 65536) p.Instant=false)→∀p∈l,inst ((ev+1) % 65536) p.Instant:=fun l hl hp p hm=>(inst_next h0 h1 (hl p hm)).2 (hp p hm)
 have no : ∀p∈([]: List Change),inst ((ev+1) % 65536) p.Instant:=fun p hp=>by cases hp
 rcases da with ⟨rfl,rfl,na⟩| ⟨c,e,hp,_,_,_,he,rfl,rfl⟩| ⟨c,o,o2,hp,hps,ht,ho,rfl,rfl⟩
 ·rcases h.fl with ⟨f1,f2⟩| ⟨c',f1,f2,f3,f4⟩
  ·rcases db with ⟨rfl,rfl,nb⟩| ⟨c,e,hpb,hpp,hr,_⟩| ⟨c,o,o2,hpb,hps,_⟩
   ·exact .inr ⟨stay _ h.ia na,stay _ h.ib nb,h.dn,h.de,h.fl⟩
   ·exact absurd ob.role hr
   ·have:=na c (by rw [f2,hpb];exact List.mem_singleton.2 rfl)
    rw [hps] at this;cases this
  ·rcases db with ⟨rfl,rfl,nb⟩| ⟨c,e,hpb,hpp,hr,_⟩| ⟨c,o,o2,hpb,hps,_⟩
   ·exact .inr ⟨stay _ h.ia na,stay _ h.ib nb,h.dn,h.de,h.fl⟩
   ·exact absurd ob.role hr
   ·rw [f4] at hpb;cases hpb
 ·exact .inl he
 ·rcases h.fl with ⟨f1,f2⟩| ⟨c',f1,f2,f3,f4⟩
  ·rw [hp] at f2
   rcases db with ⟨rfl,rfl,nb⟩| ⟨c2,e,hpb,hpp,hr,_⟩| ⟨c2,p,p2,hpb,hps2,ht2,ho2,rfl,rfl⟩
   ·have:=nb c (by rw [←f2];exact List.mem_singleton.2 rfl)
    rw [hps] at this;cases this
   ·exact absurd ob.role hr
   ·have hcc:c=c2:=by rw [←f2] at hpb;injection hpb
    subst hcc
    refine .inr ⟨no,no, ?_, ?_, .inl ⟨f1,rfl⟩⟩
    ·show a.d ++ _=b.d ++ _
     rw [h.dn]
    ·intro x hx
     have hx:x∈a.d ++ [({event:=(ev+1) % 65536,change:=c}: Law28applied)]:= hx
     rcases List.mem_append.1 hx with hx | hx
     ·exact h.de x hx
     ·rw [List.mem_singleton.1 hx]
      exact ((inst_next h0 h1 (h.ia c (by rw [hp];exact List.mem_singleton.2 rfl))).1 hps).symm
  ·have:=ht (by rw [oa.role];decide)
   rw [f3] at this;cases this
end Go.Aw.W
end
section
/- The exchange: all invariants together, kept by every step (own work). -/
set_option linter.unusedVariables false
namespace Go.Aw.W
open Go Go.Aw Go.Proofs
def ended (a b:Sd): Prop:=a.s.Ended≠0∨b.s.Ended≠0
def term (a b:Sd): Prop:=(∃c,c∈a.q∧c.Kind=2)∨(∃c,c∈b.q∧c.Kind=2)
structure XI (n:Nat) (a b:Sd) (ev:Int): Prop where
 oa:Ok 0 a
 ob:Ok 1 b
 ph:ph 0 a+ph 1 b≤n
 e0:0≤ev
 e1:ev < 65536
 j:ended a b∨(JV a b∧JV b a∧JT a b ev∧(term a b∨JL a b))
theorem XI.mono {n m:Nat} {a b:Sd} {ev:Int} (h:XI n a b ev) (hm:n≤m): XI m a b ev:=⟨h.oa,h.ob,Nat.le_trans h.ph hm,h.e0,h.e1,h.j⟩
structure Stp (r:Int) (k:Nat) (a b:Sd) (a':Sd): Prop where
 ok:Ok r a'
 ph:ph r a'≤ph r a+k
 en:a.s.Ended≠0→a'.s.Ended≠0
 jv:JV a b→JV b a→JV a' b∧JV b a'
 jl:JL a b→term a' b∨JL a' b
 tm : ∀c,c∈a.q→c∈a'.q
theorem XI.stepA {n k:Nat} {a b a':Sd} {ev:Int} (h:XI n a b ev) (s:Stp 0 k a b a') (jt:JT a b ev→JT a' b ev): XI (n+k) a' b ev:=by
 refine ⟨s.ok,h.ob,by have:=h.ph;have:=s.ph;omega,h.e0,h.e1, ?_⟩
 rcases h.j with (he | he)| ⟨h1,h2,h3,h4⟩
 ·exact .inl (.inl (s.en he))
 ·exact .inl (.inr he)
 ·have:=s.jv h1 h2
  refine .inr ⟨this.1,this.2,jt h3, ?_⟩
  rcases h4 with (⟨c,hc,hk⟩| hc)| h4
  ·exact .inl (.inl ⟨c,s.tm c hc,hk⟩)
  ·exact .inl (.inr hc)
  ·exact s.jl h4
theorem XI.stepB {n k:Nat} {a b b':Sd} {ev:Int} (h:XI n a b ev) (s:Stp 1 k b a b') (jt:JT a b ev→JT a b' ev): XI (n+k) a b' ev:=by
 refine ⟨h.oa,s.ok,by have:=h.ph;have:=s.ph;omega,h.e0,h.e1, ?_⟩
 rcases h.j with (he | he)| ⟨h1,h2,h3,h4⟩
 ·exact .inl (.inl he)
 ·exact .inl (.inr (s.en he))
 ·have:=s.jv h2 h1
  refine .inr ⟨this.2,this.1,jt h3, ?_⟩
  rcases h4 with (hc | ⟨c,hc,hk⟩)| h4
  ·exact .inl (.inl hc)
  ·exact .inl (.inr ⟨c,s.tm c hc,hk⟩)
  ·rcases s.jl h4.symm with (⟨c,hc,hk⟩| hc)| h5
   ·exact .inl (.inr ⟨c,hc,hk⟩)
   ·exact .inl (.inl hc)
   ·exact .inr h5.symm
theorem qw_one (r:Int) (x:Control): qw r [x]≤5:=by
 have:=wt_le r x.Kind
 simp only [qw];omega
theorem nv_le {s s':Procs} (h:s'.VersionTx=s.VersionTx∨s'.VersionTx=true): nv s'≤nv s:=by
 unfold nv
 rcases h with h | h
 ·rw [h];exact Nat.le_refl _
 ·rw [h,if_pos rfl];exact Nat.zero_le _
theorem ph_beg {r:Int} {a:Sd} {s':Procs} {x:Control} (h:s'.VersionTx=a.s.VersionTx∨s'.VersionTx=true): ph r ((a.ws s').put [x])≤ph r a+5:=by
 rw [ph_put]
 have:=qw_one r x
 have:=nv_le h
 unfold ph
 omega
theorem Ok.beg {r:Int} {a:Sd} (h:Ok r a) (ev now:Int): Beg a.s ev now (fun s' l=>Ok r ((a.ws s').put l)):= by
 constructor
 case b1 =>
  intro x hk hr ho hp hi o
  refine h.keep rfl rfl ?_ rfl (fun e=>by have e:x.Kind=12:=e;omega) h.ll (one_mem (okQ_k (by omega)))
  rw [hp]
  rcases insAdd_cs [] ev (pChange x) with ⟨_,_,e⟩| ⟨_,e⟩
  ·exact .inl (by show (insAdd [] ev (pChange x)).1=[];rw [e])
  ·exact .inr ⟨pChange x,by show (insAdd [] ev (pChange x)).1=_;rw [e],hk⟩
 case b3 =>
  intro x hk hr ho
  exact h.keep rfl rfl (.inl rfl) rfl (fun e=>by cases e) h.ll (one_mem (okQ_k (by omega)))
 case bv =>
  intro x hk hv _ hf
  exact h.newv rfl rfl rfl hf rfl h.ll hk hv
 case bl =>
  intro x hk h1 h2 ho
  exact h.keep rfl rfl (.inl rfl) rfl (fun e=>by cases e) ⟨h1,h2⟩ (one_mem (okQ_len (.inl hk) h1 h2))
 case bo =>
  intro x hk ho
  exact h.keep rfl rfl (.inl rfl) rfl (fun e=>by have e:x.Kind=12:=e;omega) h.ll (one_mem (okQ_k (by omega)))
theorem Stp.beg {r:Int} {a b:Sd} (h:Ok r a) (ev now:Int): Beg a.s ev now (fun s' l=>Stp r 5 a b ((a.ws s').put l)):= by
 have ho:=h.beg ev now
 have hv:JV a b→JV b a→Beg a.s ev now (fun s' l=>JV ((a.ws s').put l) b∧JV b ((a.ws s').put l)):= fun h1 h2=>JV_beg h1 h2 ev now
 have hl:JL a b→Beg a.s ev now (fun s' l=>JL ((a.ws s').put l) b):= fun h=>JL_beg h ev now
 constructor
 case b1=>intro x h1 h2 h3 h4 h5 o;exact ⟨ho.b1 x h1 h2 h3 h4 h5 o,ph_beg (.inl rfl),id,fun q1 q2=>(hv q1 q2).b1 x h1 h2 h3 h4 h5 o,fun q => .inr ((hl q).b1 x h1 h2 h3 h4 h5 o),fun c hc=>List.mem_append_left _ hc⟩
 case b3=>intro x h1 h2 h3;exact ⟨ho.b3 x h1 h2 h3,ph_beg (.inl rfl),id,fun q1 q2=>(hv q1 q2).b3 x h1 h2 h3,fun q => .inr ((hl q).b3 x h1 h2 h3),fun c hc=>List.mem_append_left _ hc⟩
 case bv=>intro x h1 h2 h3 h4;exact ⟨ho.bv x h1 h2 h3 h4,ph_beg (.inr rfl),id,fun q1 q2=>(hv q1 q2).bv x h1 h2 h3 h4,fun q => .inr ((hl q).bv x h1 h2 h3 h4),fun c hc=>List.mem_append_left _ hc⟩
 case bl=>intro x h1 h2 h3 h4;exact ⟨ho.bl x h1 h2 h3 h4,ph_beg (.inl rfl),id,fun q1 q2=>(hv q1 q2).bl x h1 h2 h3 h4,fun q => .inr ((hl q).bl x h1 h2 h3 h4),fun c hc=>List.mem_append_left _ hc⟩
 case bo=>intro x h1 h2;exact ⟨ho.bo x h1 h2,ph_beg (.inl rfl),id,fun q1 q2=>(hv q1 q2).bo x h1 h2,fun q => .inr ((hl q).bo x h1 h2),fun c hc=>List.mem_append_left _ hc⟩
theorem Stp.wait {r:Int} {a b:Sd} (h:Ok r a) (W:List Control) (h1:W.length≤8) (h2 : ∀c∈W,okW r c): Stp r 0 a b (a.ws {a.s with Waiting := W}):=
 ⟨⟨h.role,h1,h2,h.pl,h.pk,h.qq,h.vv,h.ov,h.ll⟩,Nat.le_refl _,id,fun q1 q2=>⟨q1.more rfl (fun c hc _=>hc) id id,q2.more rfl (fun c hc _=>hc) id id⟩,fun q => .inr (q.side rfl rfl rfl rfl rfl Iff.rfl q.ea),fun c hc=>hc⟩
theorem Stp.term {r:Int} {a b:Sd} (h:Ok r a) (now:Int) (x:Control) (hx:x.Kind=2): Stp r 5 a b ((a.ws {a.s with Own:=2,Since:=now,Waiting:=[]}).put [x]):= by
 have h':Ok r (a.ws {a.s with Waiting:=[]}):= (Stp.wait (b:=b) h [] (Nat.zero_le _) (fun c hc=>by cases hc)).ok
 refine ⟨h'.keep (s':={a.s with Own:=2,Since:=now,Waiting:=[]}) rfl rfl (.inl rfl) rfl (fun e=>by cases e) h.ll (one_mem (okQ_k (by omega))),ph_beg (.inl rfl),id,fun q1 q2=>⟨q1.more rfl (fun c hc _=>List.mem_append_left _ hc) id id,q2.more rfl (fun c hc _=>hc) id id⟩,fun q => .inl (.inl ⟨x,List.mem_append_right _ (List.mem_singleton.2 rfl),hx⟩),fun c hc=>List.mem_append_left _ hc⟩
theorem Stp.trans {r:Int} {k m:Nat} {a b a' a'':Sd} (h:Stp r k a b a') (h2:Stp r m a' b a'') (ht:Stp r 0 a b a'∧(JL a b→JL a' b)): Stp r (k+m) a b a'' :=
 ⟨h2.ok,by have:=h.ph;have:=h2.ph;omega,fun e=>h2.en (h.en e),fun q1 q2=>(h.jv q1 q2).elim fun q3 q4=>h2.jv q3 q4,fun q=>h2.jl (ht.2 q),fun c hc=>h2.tm c (h.tm c hc)⟩
def stS (a:Sd) (c:Control) (ev now:Int): Sd:=(a.ws (procStart a.s c ev now).1).put (procStart a.s c ev now).2.1
def rdS (a:Sd) (ev now:Int): Sd:=(a.ws (procReady a.s ev now).1).put (procReady a.s ev now).2
def bgS (a:Sd) (ev now:Int): Sd:=rdS (a.du ev) ev now
theorem Stp.none {r:Int} {a b:Sd} (h:Ok r a) (k:Nat): Stp r k a b ((a.ws a.s).put []):= by
 rw [put_nil]
 exact ⟨h,Nat.le_add_right _ _,id,fun q1 q2=>⟨q1,q2⟩,fun q => .inr q,fun c hc=>hc⟩
theorem Stp.mono {r:Int} {k m:Nat} {a b a':Sd} (h:Stp r k a b a') (hm:k≤m): Stp r m a b a':=⟨h.ok,Nat.le_trans h.ph (by omega),h.en,h.jv,h.jl,h.tm⟩
def JTs (a b:Sd) (ev:Int) (r:Int) (a':Sd): Prop:=(r=0→JT a b ev→JT a' b ev)∧(r=1→JT b a ev→JT b a' ev)
theorem JTs.wait (a b:Sd) (ev r:Int) (W:List Control): JTs a b ev r (a.ws {a.s with Waiting:=W}):= ⟨fun _ h=>h.sideA rfl rfl rfl rfl,fun _ h=>h.sideB rfl rfl⟩
theorem JTs.beg {a b:Sd} {ev r:Int} (h:Ok r a) (h0:0≤ev) (h1:ev < 65536) (now:Int): Beg a.s ev now (fun s' l=>JTs a b ev r ((a.ws s').put l)):= by
 have hA:JT a b ev→Beg a.s ev now (fun s' l=>JT ((a.ws s').put l) b ev):= fun q=>JT_begA q h0 h1 now
 have hB:r=1→JT b a ev→Beg a.s ev now (fun s' l=>JT b ((a.ws s').put l) ev):= fun hr q=>JT_begB q (h.role.trans hr) now
 constructor
 case b1=>intro x h1 h2 h3 h4 h5 o;exact ⟨fun _ q=>(hA q).b1 x h1 h2 h3 h4 h5 o,fun hr q=>(hB hr q).b1 x h1 h2 h3 h4 h5 o⟩
 case b3=>intro x h1 h2 h3;exact ⟨fun _ q=>(hA q).b3 x h1 h2 h3,fun hr q=>(hB hr q).b3 x h1 h2 h3⟩
 case bv=>intro x h1 h2 h3 h4;exact ⟨fun _ q=>(hA q).bv x h1 h2 h3 h4,fun hr q=>(hB hr q).bv x h1 h2 h3 h4⟩
 case bl=>intro x h1 h2 h3 h4;exact ⟨fun _ q=>(hA q).bl x h1 h2 h3 h4,fun hr q=>(hB hr q).bl x h1 h2 h3 h4⟩
 case bo=>intro x h1 h2;exact ⟨fun _ q=>(hA q).bo x h1 h2,fun hr q=>(hB hr q).bo x h1 h2⟩
theorem Beg.both {s:Procs} {ev now:Int} {M N:Procs→List Control→Prop} (h:Beg s ev now M) (k:Beg s ev now N): Beg s ev now (fun s' l=>M s' l∧N s' l):= by
 constructor
 case b1=>intro x h1 h2 h3 h4 h5 o;exact ⟨h.b1 x h1 h2 h3 h4 h5 o,k.b1 x h1 h2 h3 h4 h5 o⟩
 case b3=>intro x h1 h2 h3;exact ⟨h.b3 x h1 h2 h3,k.b3 x h1 h2 h3⟩
 case bv=>intro x h1 h2 h3 h4;exact ⟨h.bv x h1 h2 h3 h4,k.bv x h1 h2 h3 h4⟩
 case bl=>intro x h1 h2 h3 h4;exact ⟨h.bl x h1 h2 h3 h4,k.bl x h1 h2 h3 h4⟩
 case bo=>intro x h1 h2;exact ⟨h.bo x h1 h2,k.bo x h1 h2⟩
theorem Beg.map {s:Procs} {ev now:Int} {M N:Procs→List Control→Prop} (h:Beg s ev now M) (f : ∀s' l,M s' l→N s' l): Beg s ev now N :=
 ⟨fun x h1 h2 h3 h4 h5 o=>f _ _ (h.b1 x h1 h2 h3 h4 h5 o),fun x h1 h2 h3=>f _ _ (h.b3 x h1 h2 h3),fun x h1 h2 h3 h4=>f _ _ (h.bv x h1 h2 h3 h4),fun x h1 h2 h3 h4=>f _ _ (h.bl x h1 h2 h3 h4),fun x h1 h2=>f _ _ (h.bo x h1 h2)⟩
theorem JTs.none (a b:Sd) (ev r:Int): JTs a b ev r ((a.ws a.s).put []):= by rw [put_nil];exact ⟨fun _ h=>h,fun _ h=>h⟩
theorem Stp.start {r:Int} {a b:Sd} {ev:Int} (h:Ok r a) (h0:0≤ev) (h1:ev < 65536) (c:Control) (now:Int): Stp r 5 a b (stS a c ev now)∧JTs a b ev r (stS a c ev now):= by
 refine start_el a.s c ev now (fun s' l=>Stp r 5 a b ((a.ws s').put l)∧JTs a b ev r ((a.ws s').put l)) ⟨Stp.none h 5,JTs.none a b ev r⟩ ?_ ?_ ((Stp.beg h ev now).both (JTs.beg h h0 h1 now))
 ·intro x hx hl
  rw [put_nil]
  refine ⟨(Stp.wait h _ ?_ ?_).mono (Nat.zero_le _),JTs.wait a b ev r _⟩
  ·rw [List.length_append];show _+1≤8;omega
  ·intro c hc
   rcases List.mem_append.1 hc with hc | hc
   ·exact h.ww c hc
   ·rw [List.mem_singleton.1 hc,←h.role];exact hx
 ·intro x hx
  refine ⟨Stp.term h now x hx,fun _ q=>q.sideA rfl rfl rfl ?_,fun _ q=>q.sideB rfl rfl⟩
  show chg (a.q ++ [x])= _
  rw [chg_app,chg_one (by omega),List.append_nil]
theorem Stp.ready {r:Int} {a b:Sd} {ev:Int} (h:Ok r a) (h0:0≤ev) (h1:ev < 65536) (now:Int): Stp r 5 a b (rdS a ev now)∧JTs a b ev r (rdS a ev now):= by
 have hw : ∀n,∀c∈a.s.Waiting.drop n,okW r c:=fun n c hc=>h.ww c (List.mem_of_mem_drop hc)
 have hl : ∀n,(a.s.Waiting.drop n).length≤8:=fun n=>by rw [List.length_drop];have:=h.wl;omega
 refine ready_el a.s ev now (fun s' l=>Stp r 5 a b ((a.ws s').put l)∧JTs a b ev r ((a.ws s').put l)) (by rw [h.role];exact h.ww) ?_ ?_
 ·intro n
  rw [put_nil]
  exact ⟨(Stp.wait h _ (hl n) (hw n)).mono (Nat.zero_le _),JTs.wait a b ev r _⟩
 ·intro _ n
  have w:=Stp.wait (b:=b) h _ (hl n) (hw n)
  have k:=(Stp.beg (b:=b) w.ok ev now).both (JTs.beg (b:=b) w.ok h0 h1 now)
  refine k.map (fun s' l ⟨q1,q2⟩=> ⟨?_, ?_⟩)
  ·exact (w.trans q1 ⟨w,fun q=>q.side rfl rfl rfl rfl rfl Iff.rfl q.ea⟩).mono (by omega)
  ·exact ⟨fun hr q=>q2.1 hr ((JTs.wait a b ev r _).1 hr q),fun hr q=>q2.2 hr ((JTs.wait a b ev r _).2 hr q)⟩
theorem XI.du {n:Nat} {a b:Sd} {ev:Int} (h:XI n a b ev): XI n (a.du ((ev+1) % 65536)) (b.du ((ev+1) % 65536)) ((ev+1) % 65536):= by
 obtain ⟨a1,a2,a3⟩:= h.oa.du ((ev+1) % 65536)
 obtain ⟨b1,b2,b3⟩:= h.ob.du ((ev+1) % 65536)
 refine ⟨a1,b1,by rw [a2,b2];exact h.ph,by omega,by omega, ?_⟩
 rcases h.j with (he | he)| ⟨h1,h2,h3,h4⟩
 ·exact .inl (.inl (a3 he))
 ·exact .inl (.inr (b3 he))
 ·rcases h3.du h.e0 h.e1 h.oa h.ob with he | h5
  ·exact .inl (.inl he)
  ·refine .inr ⟨h1.duA _ h.oa.pl h.ob.pl,h2.duA _ h.ob.pl h.oa.pl,h5, ?_⟩
   rcases h4 with ht | hl
   ·exact .inl ht
   ·exact .inr (hl.du _ h.oa h.ob)
theorem XI.begin {n:Nat} {a b:Sd} {ev:Int} (h:XI n a b ev) (now:Int): XI (n+10) (bgS a ((ev+1) % 65536) now) (bgS b ((ev+1) % 65536) now) ((ev+1) % 65536):= by
 have h1:=h.du
 obtain ⟨q1,q2⟩:= Stp.ready (b:=b.du ((ev+1) % 65536)) h1.oa h1.e0 h1.e1 now
 have h2:=h1.stepA q1 (q2.1 rfl)
 obtain ⟨q3,q4⟩:= Stp.ready (b:=bgS a ((ev+1) % 65536) now) h2.ob h2.e0 h2.e1 now
 exact h2.stepB q3 (q4.2 rfl)
theorem XI.startA {n:Nat} {a b:Sd} {ev:Int} (h:XI n a b ev) (c:Control) (now:Int): XI (n+5) (stS a c ev now) b ev:=by
 obtain ⟨q1,q2⟩:= Stp.start (b:=b) h.oa h.e0 h.e1 c now
 exact h.stepA q1 (q2.1 rfl)
theorem XI.startB {n:Nat} {a b:Sd} {ev:Int} (h:XI n a b ev) (c:Control) (now:Int): XI (n+5) a (stS b c ev now) ev:=by
 obtain ⟨q1,q2⟩:= Stp.start (b:=a) h.ob h.e0 h.e1 c now
 exact h.stepB q1 (q2.2 rfl)
theorem Hnd.both {s:Procs} {c:Control} {now:Int} {M N:Procs→List Control→Prop} (h:Hnd s c now M) (k:Hnd s c now N): Hnd s c now (fun s' l=>M s' l∧N s' l):=
 ⟨fun a1 a2 a3 a4 a5=>⟨h.ign a1 a2 a3 a4 a5,k.ign a1 a2 a3 a4 a5⟩,fun a1 a2 a3 a4=>⟨h.cf a1 a2 a3 a4,k.cf a1 a2 a3 a4⟩,fun a1 a2 a3 a4 a5=>⟨h.cg a1 a2 a3 a4 a5,k.cg a1 a2 a3 a4 a5⟩,fun a1 a2 a3=>⟨h.te a1 a2 a3,k.te a1 a2 a3⟩,fun a1 a2 a3=>⟨h.a0 a1 a2 a3,k.a0 a1 a2 a3⟩,fun a1 a2 a3 a4 a5 a6=>⟨h.a1 a1 a2 a3 a4 a5 a6,k.a1 a1 a2 a3 a4 a5 a6⟩,fun a1 a2 a3 a4 a5 a6 a7 a8=>⟨h.a2 a1 a2 a3 a4 a5 a6 a7 a8,k.a2 a1 a2 a3 a4 a5 a6 a7 a8⟩,fun a1 a2 a3=>⟨h.sa a1 a2 a3,k.sa a1 a2 a3⟩,fun a1 a2 a3 a4 a5=>⟨h.st a1 a2 a3 a4 a5,k.st a1 a2 a3 a4 a5⟩,fun a1 a2 a3=>⟨h.oc a1 a2 a3,k.oc a1 a2 a3⟩,fun a1 a2 a3 a4 a5=>⟨h.op a1 a2 a3 a4 a5,k.op a1 a2 a3 a4 a5⟩,fun a1 a2 a3 a4=>⟨h.re a1 a2 a3 a4,k.re a1 a2 a3 a4⟩,fun a1 a2 a3 a4=>⟨h.fr a1 a2 a3 a4,k.fr a1 a2 a3 a4⟩,fun a1 a2 a3=>⟨h.fa a1 a2 a3,k.fa a1 a2 a3⟩,fun a1 a2=>⟨h.vo a1 a2,k.vo a1 a2⟩,fun a1 a2 a3 a4 a5 a6=>⟨h.vn a1 a2 a3 a4 a5 a6,k.vn a1 a2 a3 a4 a5 a6⟩,fun a1 a2 a3=>⟨h.vt a1 a2 a3,k.vt a1 a2 a3⟩,fun a1 a2 a3 a4=>⟨h.pr a1 a2 a3 a4,k.pr a1 a2 a3 a4⟩,fun a1=>⟨h.pp a1,k.pp a1⟩,fun a1 a2 a3=>⟨h.pi a1 a2 a3,k.pi a1 a2 a3⟩,fun a1 a2=>⟨h.pd a1 a2,k.pd a1 a2⟩,fun a1 a2 a3 a4=>⟨h.le a1 a2 a3 a4,k.le a1 a2 a3 a4⟩,fun a1 a2=>⟨h.la a1 a2,k.la a1 a2⟩⟩
theorem Hnd.map {s:Procs} {c:Control} {now:Int} {M N:Procs→List Control→Prop} (h:Hnd s c now M) (f : ∀s' l,M s' l→N s' l): Hnd s c now N :=
 ⟨fun a1 a2 a3 a4 a5=>f _ _ (h.ign a1 a2 a3 a4 a5),fun a1 a2 a3 a4=>f _ _ (h.cf a1 a2 a3 a4),fun a1 a2 a3 a4 a5=>f _ _ (h.cg a1 a2 a3 a4 a5),fun a1 a2 a3=>f _ _ (h.te a1 a2 a3),fun a1 a2 a3=>f _ _ (h.a0 a1 a2 a3),fun a1 a2 a3 a4 a5 a6=>f _ _ (h.a1 a1 a2 a3 a4 a5 a6),fun a1 a2 a3 a4 a5 a6 a7 a8=>f _ _ (h.a2 a1 a2 a3 a4 a5 a6 a7 a8),fun a1 a2 a3=>f _ _ (h.sa a1 a2 a3),fun a1 a2 a3 a4 a5=>f _ _ (h.st a1 a2 a3 a4 a5),fun a1 a2 a3=>f _ _ (h.oc a1 a2 a3),fun a1 a2 a3 a4 a5=>f _ _ (h.op a1 a2 a3 a4 a5),fun a1 a2 a3 a4=>f _ _ (h.re a1 a2 a3 a4),fun a1 a2 a3 a4=>f _ _ (h.fr a1 a2 a3 a4),fun a1 a2 a3=>f _ _ (h.fa a1 a2 a3),fun a1 a2=>f _ _ (h.vo a1 a2),fun a1 a2 a3 a4 a5 a6=>f _ _ (h.vn a1 a2 a3 a4 a5 a6),fun a1 a2 a3=>f _ _ (h.vt a1 a2 a3),fun a1 a2 a3 a4=>f _ _ (h.pr a1 a2 a3 a4),fun a1=>f _ _ (h.pp a1),fun a1 a2 a3=>f _ _ (h.pi a1 a2 a3),fun a1 a2=>f _ _ (h.pd a1 a2),fun a1 a2 a3 a4=>f _ _ (h.le a1 a2 a3 a4),fun a1 a2=>f _ _ (h.la a1 a2)⟩
theorem end_hnd (s:Procs) (c:Control) (now:Int) (hk:c.Kind=2): Hnd s c now (fun s' l=>s'.Ended≠0):= by
 constructor
 case ign=>intro _ h;exact absurd hk h
 case te=>intro _ r hr;exact hr
 all_goals (intros;exfalso;omega)
theorem ph_snt {r:Int} {a:Sd} {c:Control} {q:List Control} {sa:Procs} (hq:a.q=c::q) (hs:Snt a.s c sa): ph r ⟨sa,q,a.d,a.v⟩+ wt r c.Kind=ph r a:=by
 obtain ⟨t,e,_,_,rfl⟩:= hs.e
 unfold ph
 rw [hq]
 simp only [qw,nv]
 omega
theorem dlvA_xi {n:Nat} {a b:Sd} {ev:Int} (h:XI n a b ev) (t:Law28Talk) (now:Int) {c:Control} {q:List Control} (hq:a.q=c::q) (he : ¬ended a b): ∃m,n=m+1∧XI m (dlv t a b ev now).1 (dlv t a b ev now).2 ev:=by
 have hEb:b.s.Ended=0:=by rcases Int.lt_trichotomy b.s.Ended 0 with h | h | h;exact absurd (.inr (by omega)) he;exact h;exact absurd (.inr (by omega)) he
 have hj:=h.j.resolve_left he
 obtain ⟨j1,j2,j3,j4⟩:= hj
 have hk:okQ c:=h.oa.qq c (by rw [hq];exact List.mem_cons_self ..)
 refine dlv_el t a b ev now c q hq hEb hk (fun a' b' => ∃m,n=m+1∧XI m a' b' ev) fun sa hs=>?_
 have w1:=h.ob.hnd c now
 have w2:=ph_hnd (r':=0) b h.ob.role (.inl ⟨rfl,rfl⟩) c now
 have w3:=JV_hnd hq hs j1 j2 h.ob.ov now
 have w4:=JT_hndB hq hs j3 h.ob.role now
 have hp:=ph_snt (r:=0) hq hs
 have hn:=h.ph
 have fin : ∀(s':Procs) (l:List Control),Ok 1 ((b.ws s').put l)→ph 1 ((b.ws s').put l)+ 1≤ph 1 b+wt 0 c.Kind→(ended ⟨sa,q,a.d,a.v⟩ ((b.ws s').put l)∨(JV ⟨sa,q,a.d,a.v⟩ ((b.ws s').put l)∧JV ((b.ws s').put l) ⟨sa,q,a.d,a.v⟩∧JT ⟨sa,q,a.d,a.v⟩ ((b.ws s').put l) ev∧(term ⟨sa,q,a.d,a.v⟩ ((b.ws s').put l)∨JL ⟨sa,q,a.d,a.v⟩ ((b.ws s').put l))))→∃m,n=m+1∧XI m ⟨sa,q,a.d,a.v⟩ ((b.ws s').put l) ev:=by
  intro s' l o1 o2 o3
  cases n with
  | zero=>omega
  | succ n=>exact ⟨n,rfl,h.oa.sent hq hs,o1,by omega,h.e0,h.e1,o3⟩
 have st:Hnd b.s c now (fun s' l=>s'.Ended≠0∨term ⟨sa,q,a.d,a.v⟩ ((b.ws s').put l)∨JL ⟨sa,q,a.d,a.v⟩ ((b.ws s').put l)):= by
  rcases j4 with (⟨x,hx,hx2⟩| ⟨x,hx,hx2⟩)| hl
  ·rw [hq] at hx
   rcases List.mem_cons.1 hx with e | hx
   ·subst e;exact (end_hnd b.s x now hx2).map fun s' l q => .inl q
   ·exact w1.map fun s' l _ => .inr (.inl (.inl ⟨x,hx,hx2⟩))
  ·exact w1.map fun s' l _ => .inr (.inl (.inr ⟨x,List.mem_append_left _ hx,hx2⟩))
  ·exact (JL_hnd hq hs hl now).map fun s' l q=>q.imp id .inr
 refine ((w1.both w2).both ((w3.both w4).both st)).map fun s' l ⟨⟨q1,q2⟩,⟨q3,q4⟩,q5⟩=> fin s' l q1 q2 ?_
 rcases q4 with e | q4
 ·exact .inl (.inr e)
 rcases q5 with e | q5
 ·exact .inl (.inr e)
 exact .inr ⟨q3.1,q3.2,q4,q5⟩
theorem dlvB_xi {n:Nat} {a b:Sd} {ev:Int} (h:XI n a b ev) (t:Law28Talk) (now:Int) {c:Control} {q:List Control} (hq:b.q=c::q) (he : ¬ended a b): ∃m,n=m+1∧XI m (dlv t b a ev now).2 (dlv t b a ev now).1 ev:=by
 have hEa:a.s.Ended=0:=by rcases Int.lt_trichotomy a.s.Ended 0 with h | h | h;exact absurd (.inl (by omega)) he;exact h;exact absurd (.inl (by omega)) he
 have hj:=h.j.resolve_left he
 obtain ⟨j1,j2,j3,j4⟩:= hj
 have hk:okQ c:=h.ob.qq c (by rw [hq];exact List.mem_cons_self ..)
 refine dlv_el t b a ev now c q hq hEa hk (fun b' a' => ∃m,n=m+1∧XI m a' b' ev) fun sb hs=>?_
 have w1:=h.oa.hnd c now
 have w2:=ph_hnd (r':=1) a h.oa.role (.inr ⟨rfl,rfl⟩) c now
 have w3:=JV_hnd hq hs j2 j1 h.oa.ov now
 have w4:=JT_hndA (q:=q) hs j3 h.oa.role now
 have hp:=ph_snt (r:=1) hq hs
 have hn:=h.ph
 have fin : ∀(s':Procs) (l:List Control),Ok 0 ((a.ws s').put l)→ph 0 ((a.ws s').put l)+ 1≤ph 0 a+wt 1 c.Kind→(ended ((a.ws s').put l) ⟨sb,q,b.d,b.v⟩∨(JV ((a.ws s').put l) ⟨sb,q,b.d,b.v⟩∧JV ⟨sb,q,b.d,b.v⟩ ((a.ws s').put l)∧JT ((a.ws s').put l) ⟨sb,q,b.d,b.v⟩ ev∧(term ((a.ws s').put l) ⟨sb,q,b.d,b.v⟩∨JL ((a.ws s').put l) ⟨sb,q,b.d,b.v⟩)))→∃m,n=m+1∧XI m ((a.ws s').put l) ⟨sb,q,b.d,b.v⟩ ev:=by
  intro s' l o1 o2 o3
  cases n with
  | zero=>omega
  | succ n=>exact ⟨n,rfl,o1,h.ob.sent hq hs,by omega,h.e0,h.e1,o3⟩
 have st:Hnd a.s c now (fun s' l=>s'.Ended≠0∨term ((a.ws s').put l) ⟨sb,q,b.d,b.v⟩∨JL ((a.ws s').put l) ⟨sb,q,b.d,b.v⟩):= by
  rcases j4 with (⟨x,hx,hx2⟩| ⟨x,hx,hx2⟩)| hl
  ·exact w1.map fun s' l _ => .inr (.inl (.inl ⟨x,List.mem_append_left _ hx,hx2⟩))
  ·rw [hq] at hx
   rcases List.mem_cons.1 hx with e | hx
   ·subst e;exact (end_hnd a.s x now hx2).map fun s' l q => .inl q
   ·exact w1.map fun s' l _ => .inr (.inl (.inr ⟨x,hx,hx2⟩))
  ·exact (JL_hnd hq hs hl.symm now).map fun s' l q=>q.imp id fun q => .inr q.symm
 refine ((w1.both w2).both ((w3.both w4).both st)).map fun s' l ⟨⟨q1,q2⟩,⟨q3,q4⟩,q5⟩=> fin s' l q1 q2 ?_
 rcases q5 with e | q5
 ·exact .inl (.inl e)
 exact .inr ⟨q3.2,q3.1,q4,q5⟩
theorem XI.together {n:Nat} {a b:Sd} {ev:Int} (h:XI n a b ev) (he : ¬ended a b): a.d=b.d∧∀x∈a.d,x.event=x.change.Instant :=
 have hj:=h.j.resolve_left he
 ⟨hj.2.2.1.dn,hj.2.2.1.de⟩
theorem XI.versions {n:Nat} {a b:Sd} {ev:Int} (h:XI n a b ev): (0≤a.v∧a.v≤1)∧(0≤b.v∧b.v≤1)∧(¬ended a b→a.q=[]→b.q=[]→a.v+b.v≠0→a.s.Version=11∧b.s.Version=11):= by
 have va:=h.oa.vv
 have vb:=h.ob.vv
 refine ⟨by rw [va];split <;> decide,by rw [vb];split <;> decide,fun he qa qb hv=>?_⟩
 obtain ⟨j1,j2,_⟩:= h.j.resolve_left he
 have k1:a.s.VersionTx=true→b.s.Version=11∧b.s.VersionTx=true:=fun e=>(j1 e).resolve_left (by rintro ⟨c,hc,_⟩;rw [qa] at hc;cases hc)
 have k2:b.s.VersionTx=true→a.s.Version=11∧a.s.VersionTx=true:=fun e=>(j2 e).resolve_left (by rintro ⟨c,hc,_⟩;rw [qb] at hc;cases hc)
 by_cases ha:a.s.VersionTx=true
 ·exact ⟨(k2 (k1 ha).2).1,(k1 ha).1⟩
 ·by_cases hb:b.s.VersionTx=true
  ·exact ⟨(k2 hb).1,(k1 (k2 hb).2).1⟩
  ·rw [va,vb,if_neg ha,if_neg hb] at hv
   exact absurd rfl hv
theorem XI.lengths {n:Nat} {a b:Sd} {ev:Int} (h:XI n a b ev) (he : ¬ended a b) (qa:a.q=[]) (qb:b.q=[]) (na:a.s.Own≠20) (nb:b.s.Own≠20): a.s.Length=b.s.Length∧27≤a.s.Length∧a.s.Length≤251:=by
 obtain ⟨_,_,_,j4⟩:= h.j.resolve_left he
 rcases j4 with (⟨c,hc,_⟩| ⟨c,hc,_⟩)| hl
 ·rw [qa] at hc;cases hc
 ·rw [qb] at hc;cases hc
 ·have l1:=h.oa.ll
  have l2:=h.ob.ll
  rcases hl.dd with ⟨_,_,_,_,x5,x6⟩| ⟨x1,x2⟩
  ·rw [x5,x6];decide
  ·rw [x1 (by rw [qb];rfl) na,x2 (by rw [qa];rfl) nb]
   unfold minI
   split <;> split <;> omega
theorem XI.init (fa la fb lb:Int): XI 2 ⟨procNew 0 fa la,[],[],0⟩ ⟨procNew 1 fb lb,[],[],0⟩ 0:=by
 have lim : ∀l:Int,27≤maxI (27:Int) (minI l (251:Int))∧maxI (27:Int) (minI l (251:Int))≤251:=by
  intro l;unfold maxI minI;split <;> split <;> omega
 have no : ∀{P:Control→Prop},∀c∈([]: List Control),P c:=fun c h=>by cases h
 have nc : ∀{P:Change→Prop},∀c∈([]: List Change),P c:=fun c h=>by cases h
 refine ⟨⟨rfl,Nat.zero_le _,no,Nat.zero_le _,nc,no,rfl,fun e=>(by cases e),lim la⟩,⟨rfl,Nat.zero_le _,no,Nat.zero_le _,nc,no,rfl,fun e=>(by cases e),lim lb⟩,Nat.le_refl _,(by decide),(by decide), .inr ⟨fun e=>(by cases e),fun e=>(by cases e),⟨nc,nc,rfl,fun x h=>(by cases h), .inl ⟨rfl,rfl⟩⟩, .inr ⟨fun _ e=>?_,fun h=>absurd rfl h,rfl,rfl,fun u x e=>(by simp [ln] at e),fun u x e=>(by simp [ln] at e), .inl ⟨rfl,rfl,(fun h=>absurd h (show (-1:Int)≠20 by decide)),(fun h=>absurd h (show (-1:Int)≠20 by decide)),rfl,rfl⟩⟩⟩⟩
 have e:(0:Int)= 1∨(0:Int)= 2∨(0:Int)= 3:=e
 omega
end Go.Aw.W
end
section
/- The exchange: what the calls of run compute, and that they keep the invariants (own work). -/
set_option linter.unusedVariables false
namespace Go.Aw.W
open Go Go.Aw Go.Proofs
def eA (e:Law28exchange): Sd:=⟨e.sides_0,e.queues_0,e.done_0,e.versions_0⟩
def eB (e:Law28exchange): Sd:=⟨e.sides_1,e.queues_1,e.done_1,e.versions_1⟩
theorem go_vput (l:List Control) (hl:l.length≤1000000): ∀(n0 k:Nat) (v:Int),k≤l.length→l.length < k+n0→putA0.go l n0 (↑k:Int) v=vput (l.drop k) v:=by
 intro n0
 induction n0 with
 | zero=>intro k v h1 h2;omega
 | succ n0 ih =>
  intro k v h1 h2
  unfold putA0.go
  by_cases hk:k < l.length
  ·have hd:decide ((↑k:Int) < (↑(List.length l): Int))= true:=by simp only [decide_eq_true_eq];omega
   have hw:IntKind.wrap IntKind.i64 ((↑k:Int)+ 1)= (↑(k+1): Int):= by rw [wi64 _ (by omega) (by omega)];omega
   rw [hd,cond_true,hw]
   have hx:List.getD l (Int.toNat (↑k:Int)) Control.zero=l[k]:= by
    rw [Int.toNat_natCast,List.getD_eq_getElem?_getD,List.getElem?_eq_getElem hk];rfl
   rw [hx,List.drop_eq_getElem_cons hk]
   have i1:=fun v=>ih (k+1) v (by omega) (by omega)
   show _=vput (l.drop (k+1)) (cond (l[k].Kind==12) _ v)
   cases (l[k].Kind==(12:Int))
   ·simp only [cond_false];exact i1 v
   ·simp only [cond_true];exact i1 _
  ·have hd:decide ((↑k:Int) < (↑(List.length l): Int))= false:=by simp only [decide_eq_false_iff_not];omega
   rw [hd,cond_false]
   have:l.drop k=[]:= List.drop_eq_nil_of_le (by omega)
   rw [this];rfl
theorem go_A0 (l:List Control) (hl:l.length≤1000000) (v:Int): putA0.go l (l.length+1) 0 v=vput l v:=go_vput l hl (l.length+1) 0 v (Nat.zero_le _) (by omega)
theorem go_same1 : @putA1.go =@putA0.go:=by
 funext l n0
 induction n0 with
 | zero=>rfl
 | succ n0 ih=>funext i v;unfold putA1.go putA0.go;rw [ih]
theorem go_same2 : @putC0.go =@putA0.go:=by
 funext l n0
 induction n0 with
 | zero=>rfl
 | succ n0 ih=>funext i v;unfold putC0.go putA0.go;rw [ih]
theorem go_same3 : @putC1.go =@putA0.go:=by
 funext l n0
 induction n0 with
 | zero=>rfl
 | succ n0 ih=>funext i v;unfold putC1.go putA0.go;rw [ih]
theorem eA_putA0 (e:Law28exchange) (l:List Control) (hl:l.length≤1000000): eA (putA0F e l)= (eA e).put l∧eB (putA0F e l)= eB e:=by
 refine ⟨?_,rfl⟩
 unfold putA0F eA Sd.put
 dsimp only
 rw [go_A0 l hl]
theorem eB_putA1 (e:Law28exchange) (l:List Control) (hl:l.length≤1000000): eB (putA1F e l)= (eB e).put l∧eA (putA1F e l)= eA e:=by
 refine ⟨?_,rfl⟩
 unfold putA1F eB Sd.put
 dsimp only
 rw [go_same1,go_A0 l hl]
theorem eA_putC0 (e:Law28exchange) (l:List Control) (hl:l.length≤1000000): eA (putC0F e l)= (eA e).put l∧eB (putC0F e l)= eB e:=by
 refine ⟨?_,rfl⟩
 unfold putC0F eA Sd.put
 dsimp only
 rw [go_same2,go_A0 l hl]
theorem eB_putC1 (e:Law28exchange) (l:List Control) (hl:l.length≤1000000): eB (putC1F e l)= (eB e).put l∧eA (putC1F e l)= eA e:=by
 refine ⟨?_,rfl⟩
 unfold putC1F eB Sd.put
 dsimp only
 rw [go_same3,go_A0 l hl]
structure XE (N D:Nat) (e:Law28exchange): Prop where
 x:XI N (eA e) (eB e) e.event
 d0:e.done_0.length≤D
 d1:e.done_1.length≤D
theorem q_len (r:Int) (l:List Control): l.length≤qw r l:=by
 induction l with
 | nil=>exact Nat.le_refl _
 | cons c l ih=>have:=wt_ge r c.Kind;simp only [qw,List.length_cons];omega
theorem XE.q0 {N D:Nat} {e:Law28exchange} (h:XE N D e): e.queues_0.length≤N∧e.queues_1.length≤N:=by
 have h1:=h.x.ph
 have h2:e.queues_0.length≤qw 0 (eA e).q:=q_len 0 e.queues_0
 have h3:e.queues_1.length≤qw 1 (eB e).q:=q_len 1 e.queues_1
 unfold ph at h1
 omega
theorem XE.w0 {N D:Nat} {e:Law28exchange} (h:XE N D e): e.sides_0.Waiting.length≤8∧e.sides_0.Pending.length≤1:=⟨h.x.oa.wl,h.x.oa.pl⟩
theorem XE.w1 {N D:Nat} {e:Law28exchange} (h:XE N D e): e.sides_1.Waiting.length≤8∧e.sides_1.Pending.length≤1:=⟨h.x.ob.wl,h.x.ob.pl⟩
theorem ready_len (s:Procs) (ev now:Int) (h : ∀c∈s.Waiting,okW s.Role c): (procReady s ev now).2.length≤1 :=
 ready_el s ev now (fun s' l=>l.length≤1) h (fun n=>Nat.zero_le _) (fun _ n=>⟨by intros;exact Nat.le_refl _,by intros;exact Nat.le_refl _,by intros;exact Nat.le_refl _,by intros;exact Nat.le_refl _,by intros;exact Nat.le_refl _⟩)
theorem due_len {s:Procs} {ev:Int} {s':Procs} {l:List Change} (h:Du s ev s' l): l.length≤1:=by
 rcases h.e with ⟨_,e,_⟩| ⟨_,_,_,_,_,_,_,_,e⟩| ⟨_,_,_,_,_,_,_,_,e⟩ <;> rw [e] <;> simp
theorem dnx_len (d:List Law28applied) (ev:Int) (l:List Change): (dnx d ev l).length≤d.length+1:=by
 unfold dnx
 split
 ·omega
 ·rw [List.length_append];exact Nat.le_refl _
theorem begin_ok {N D:Nat} {e:Law28exchange} (h:XE N D e) (hN:N≤100000) (hD:D≤100000): BegH e∧XE (N+10) (D+1) (begE e):= by
 have oa:=(h.x.oa.du (begEv e)).1
 have ob:=(h.x.ob.du (begEv e)).1
 have r0:(begR0 e).2.length≤1:=ready_len _ _ _ (by have h2:(begD0 e).1.Role=0:=oa.role;rw [h2];exact oa.ww)
 have r1:(begR1 e).2.length≤1:=ready_len _ _ _ (by have h2:(begD1 e).1.Role=1:=ob.role;rw [h2];exact ob.ww)
 have hq:=h.q0
 have wa:(begD0 e).1.Waiting.length≤8∧(begD0 e).1.Pending.length≤1:=⟨oa.wl,oa.pl⟩
 have wb:(begD1 e).1.Waiting.length≤8∧(begD1 e).1.Pending.length≤1:=⟨ob.wl,ob.pl⟩
 have w0:=h.w0
 have w1:=h.w1
 have d0:=h.d0
 have d1:=h.d1
 refine ⟨⟨by omega,by omega,by omega,by omega,due_len (du_is e.sides_0 (begEv e) h.x.oa.pl),due_len (du_is e.sides_1 (begEv e) h.x.ob.pl),by omega,by omega,by omega,by omega⟩, ?_⟩
 have hev:begEv e=(e.event+1) % 65536:=wu16m _
 have hx:=h.x.begin (begNow e)
 rw [←hev] at hx
 obtain ⟨p1,p2⟩:= eA_putA0 {sides_0:=(begR0 e).1,sides_1:=e.sides_1,queues_0:=e.queues_0,queues_1:=e.queues_1,done_0:=dnx e.done_0 (begEv e) (begD0 e).2,done_1:=e.done_1,versions_0:=e.versions_0,versions_1:=e.versions_1,event:=begEv e,now:=begNow e} (begR0 e).2 (by omega)
 obtain ⟨p3,p4⟩:= eB_putA1 {begX0 e (dnx e.done_0 (begEv e) (begD0 e).2) with sides_1:=(begR1 e).1,done_1:=dnx e.done_1 (begEv e) (begD1 e).2} (begR1 e).2 (by omega)
 have e1:eA (begE e)= bgS (eA e) (begEv e) (begNow e):= p4.trans p1
 have e2:eB (begE e)= bgS (eB e) (begEv e) (begNow e):= p3
 refine ⟨?_,Nat.le_trans (dnx_len e.done_0 (begEv e) (begD0 e).2) (by omega),Nat.le_trans (dnx_len e.done_1 (begEv e) (begD1 e).2) (by omega)⟩
 rw [e1,e2]
 exact hx
theorem hnd_sz (s:Procs) (c:Control) (ev now:Int) (hE:s.Ended=0) (hk:okQ c) (hp:s.Pending.length≤1): (procHandle s c ev now).1.Waiting=s.Waiting∧(procHandle s c ev now).1.Pending.length≤1∧(procHandle s c ev now).2.1.length≤1∧(procHandle s c ev now).2.2.length≤1:=by
 refine hnd s c ev now (fun s' l told=>s'.Waiting=s.Waiting∧s'.Pending.length≤1∧l.length≤1∧told.length≤1) hE hk ?_ ?_ ?_ ?_ ?_ ?_ ?_ ?_ ?_ ?_ ?_ ?_ ?_ ?_ ?_ ?_ ?_ ?_ ?_ ?_ ?_
 case refine_3=>intros;exact ⟨rfl,Nat.le_refl _,Nat.zero_le _,Nat.zero_le _⟩
 all_goals (intros;refine ⟨rfl,hp, ?_, ?_⟩ <;> first | exact Nat.zero_le _ | exact Nat.le_refl _)
theorem ans_sz (s:Procs) (f:Bool) (sl:Int): (procAnswer s f sl).2.length≤2 :=
 ans s f sl (fun s' l=>l.length≤2) (Nat.zero_le _) (fun _ _ _ _ _=>Nat.le_succ _) (fun _ _ _ _ _ _=>Nat.le_refl _)
theorem goes0_is {e:Law28exchange} (h:goes0 e=true): ¬ended (eA e) (eB e)∧∃c q,e.queues_0=c::q:=by
 unfold goes0 at h
 obtain ⟨h1,h2⟩:= bif_and h
 have h3:=bif_or (a:=e.sides_0.Ended != (0:Int)) (b:=e.sides_1.Ended != (0:Int)) (by simpa using h2)
 refine ⟨?_, ?_⟩
 ·rintro (h | h)
  ·exact h (show e.sides_0.Ended=0 by simpa using h3.1)
  ·exact h (show e.sides_1.Ended=0 by simpa using h3.2)
 ·cases hq:e.queues_0 with
  | nil=>rw [hq] at h1;cases h1
  | cons c q=>exact ⟨c,q,rfl⟩
theorem dX0_is (f2:Law28Talk) {e:Law28exchange} {c:Control} {q:List Control} (hq:e.queues_0=c::q) (h1:(aD0 e).2.1.length≤1): (eA (dX0 f2 e),eB (dX0 f2 e))= dlv f2 (eA e) (eB e) e.event e.now∧(dX0 f2 e).done_0=e.done_0∧(dX0 f2 e).done_1=e.done_1∧(dX0 f2 e).event=e.event:=by
 have hc:aC0 e=c:=by unfold aC0;rw [hq];rfl
 obtain ⟨p1,p2⟩:= eB_putC1 {e with sides_1:=(aD0 e).1,queues_0:=List.drop (Int.toNat (1:Int)) e.queues_0} (aD0 e).2.1 (by omega)
 have hA:=ans_sz (aD0 e).1 f2.Found f2.Salt
 obtain ⟨p3,p4⟩:= eB_putC1 {aX0 e with sides_1:=(aA0 f2 e).1} (aA0 f2 e).2 (Nat.le_trans hA (by decide))
 have hS:eA {e with sides_1:=(aD0 e).1,queues_0:=List.drop (Int.toNat (1:Int)) e.queues_0}= ⟨e.sides_0,q,e.done_0,e.versions_0⟩:= by
  unfold eA
  dsimp only
  rw [hq];rfl
 have k1:eB (aX0 e)= ((eB e).ws (aD0 e).1).put (aD0 e).2.1:=p1
 have k2:eA (aX0 e)= ⟨e.sides_0,q,e.done_0,e.versions_0⟩:= p2.trans hS
 have k3:eB (aY0 f2 e)= ((eB (aX0 e)).ws (aA0 f2 e).1).put (aA0 f2 e).2:=p3
 have k4:eA (aY0 f2 e)= eA (aX0 e):= p4
 have f1 : ∀x:Law28exchange,eA (aF0 e x)= ⟨(procSent e.sides_0 (aC0 e)).1,(eA x).q,(eA x).d,(eA x).v⟩:= fun _=>rfl
 have f2' : ∀x:Law28exchange,eB (aF0 e x)= eB x:=fun _=>rfl
 have dd : ∀x:Law28exchange,(aF0 e x).done_0=x.done_0∧(aF0 e x).done_1=x.done_1∧(aF0 e x).event=x.event:=fun _=>⟨rfl,rfl,rfl⟩
 have hd:aD0 e=procHandle (eB e).s c e.event e.now:=by unfold aD0;rw [hc];rfl
 have hdl:dlv f2 (eA e) (eB e) e.event e.now=(⟨(procSent e.sides_0 c).1,q,e.done_0,e.versions_0⟩,aft f2 (eB e) (aD0 e).1 (aD0 e).2.1 (aD0 e).2.2):= by
  unfold dlv
  have:(eA e).q=c::q:=hq
  rw [this,hd];rfl
 rw [hdl]
 unfold dX0 aft
 cases hl:(aD0 e).2.2 with
 | nil =>
  dsimp only
  rw [f1,f2',k1,k2,hc]
  exact ⟨rfl,rfl,rfl,rfl⟩
 | cons i l =>
  dsimp only
  cases (i.Kind==(8:Int))
  ·simp only [cond_false]
   rw [f1,f2',k1,k2,hc]
   exact ⟨rfl,rfl,rfl,rfl⟩
  ·simp only [cond_true]
   rw [f1,f2',k3,k4,k1,k2,hc]
   exact ⟨rfl,rfl,rfl,rfl⟩
theorem dlv0_ok {N D:Nat} {e:Law28exchange} (f2:Law28Talk) (h:XE N D e) (hN:N≤100000) (hg:goes0 e=true): DlvH0 f2 e∧∃m,N=m+1∧XE m D (dX0 f2 e):= by
 obtain ⟨hne,c,q,hq⟩:= goes0_is hg
 have hc:aC0 e=c:=by unfold aC0;rw [hq];rfl
 have hE:e.sides_1.Ended=0:=by
  rcases Int.lt_trichotomy e.sides_1.Ended 0 with h | h | h
  ·exact absurd (.inr (show e.sides_1.Ended≠0 by omega)) hne
  ·exact h
  ·exact absurd (.inr (show e.sides_1.Ended≠0 by omega)) hne
 have hk:okQ (aC0 e):= by rw [hc];exact h.x.oa.qq c (by show c∈e.queues_0;rw [hq];exact List.mem_cons_self ..)
 obtain ⟨z1,z2,z3,z4⟩:= hnd_sz e.sides_1 (aC0 e) e.event e.now hE hk h.x.ob.pl
 have hA:=ans_sz (aD0 e).1 f2.Found f2.Salt
 have w0:=h.w0
 have w1:=h.w1
 have hql:=h.q0
 have z1':(aD0 e).1.Waiting=e.sides_1.Waiting:=z1
 have z2':(aD0 e).1.Pending.length≤1:=z2
 have z3':(aD0 e).2.1.length≤1:=z3
 refine ⟨⟨by omega,z4,by omega,by rw [z1'];omega,by rw [List.length_append];have:(aA0 f2 e).2.length≤2:=hA;omega,by omega⟩, ?_⟩
 obtain ⟨e1,e2,e3,e4⟩:= dX0_is f2 hq z3'
 obtain ⟨m,hm,hx⟩:= dlvA_xi h.x f2 e.now hq hne
 refine ⟨m,hm, ?_,by rw [e2];exact h.d0,by rw [e3];exact h.d1⟩
 rw [e4]
 rw [←e1] at hx
 exact hx
theorem arr0_ok {N D:Nat} (f2:Law28Talk): ∀(n:Nat) {N:Nat} {e:Law28exchange},XE N D e→N≤100000→∃M,M≤N∧XE M D (arr0F f2 n e)∧(goes0 e=true→0 < n→M+1≤N):= by
 intro n
 induction n with
 | zero=>intro N e h _;exact ⟨N,Nat.le_refl _,h,fun _ h=>absurd h (Nat.lt_irrefl _)⟩
 | succ n ih =>
  intro N e h hN
  cases hg:goes0 e
  ·refine ⟨N,Nat.le_refl _, ?_,fun h=>by cases h⟩
   unfold arr0F
   rw [hg]
   exact h
  ·obtain ⟨_,m,hm,hx⟩:= dlv0_ok f2 h hN hg
   obtain ⟨M,h1,h2,_⟩:= ih hx (by omega)
   rw [arr0F_step hg]
   exact ⟨M,by omega,h2,fun _ _=>by omega⟩
theorem arr0_h {N D:Nat} {e:Law28exchange} (f2:Law28Talk) (h:XE N D e) (hN:N≤100000): ∃I:Law28exchange→Prop,I e∧∀e,I e→goes0 e=true→DlvH0 f2 e∧I (dX0 f2 e):=
 ⟨fun e => ∃M,M≤100000∧XE M D e,⟨N,hN,h⟩,fun e ⟨M,hM,hx⟩ hg=>by
  obtain ⟨h1,m,hm,hx⟩:= dlv0_ok f2 hx hM hg
  exact ⟨h1,m,by omega,hx⟩⟩
theorem goes1_is {e:Law28exchange} (h:goes1 e=true): ¬ended (eA e) (eB e)∧∃c q,e.queues_1=c::q:=by
 unfold goes1 at h
 obtain ⟨h1,h2⟩:= bif_and h
 have h3:=bif_or (a:=e.sides_0.Ended != (0:Int)) (b:=e.sides_1.Ended != (0:Int)) (by simpa using h2)
 refine ⟨?_, ?_⟩
 ·rintro (h | h)
  ·exact h (show e.sides_0.Ended=0 by simpa using h3.1)
  ·exact h (show e.sides_1.Ended=0 by simpa using h3.2)
 ·cases hq:e.queues_1 with
  | nil=>rw [hq] at h1;cases h1
  | cons c q=>exact ⟨c,q,rfl⟩
theorem dX1_is (f2:Law28Talk) {e:Law28exchange} {c:Control} {q:List Control} (hq:e.queues_1=c::q) (h1:(aD1 e).2.1.length≤1): (eB (dX1 f2 e),eA (dX1 f2 e))= dlv f2 (eB e) (eA e) e.event e.now∧(dX1 f2 e).done_0=e.done_0∧(dX1 f2 e).done_1=e.done_1∧(dX1 f2 e).event=e.event:=by
 have hc:aC1 e=c:=by unfold aC1;rw [hq];rfl
 obtain ⟨p1,p2⟩:= eA_putC0 {e with sides_0:=(aD1 e).1,queues_1:=List.drop (Int.toNat (1:Int)) e.queues_1} (aD1 e).2.1 (by omega)
 have hA:=ans_sz (aD1 e).1 f2.Found f2.Salt
 obtain ⟨p3,p4⟩:= eA_putC0 {aX1 e with sides_0:=(aA1 f2 e).1} (aA1 f2 e).2 (Nat.le_trans hA (by decide))
 have hS:eB {e with sides_0:=(aD1 e).1,queues_1:=List.drop (Int.toNat (1:Int)) e.queues_1}= ⟨e.sides_1,q,e.done_1,e.versions_1⟩:= by
  unfold eB
  dsimp only
  rw [hq];rfl
 have k1:eA (aX1 e)= ((eA e).ws (aD1 e).1).put (aD1 e).2.1:=p1
 have k2:eB (aX1 e)= ⟨e.sides_1,q,e.done_1,e.versions_1⟩:= p2.trans hS
 have k3:eA (aY1 f2 e)= ((eA (aX1 e)).ws (aA1 f2 e).1).put (aA1 f2 e).2:=p3
 have k4:eB (aY1 f2 e)= eB (aX1 e):= p4
 have f1 : ∀x:Law28exchange,eB (aF1 e x)= ⟨(procSent e.sides_1 (aC1 e)).1,(eB x).q,(eB x).d,(eB x).v⟩:= fun _=>rfl
 have f2' : ∀x:Law28exchange,eA (aF1 e x)= eA x:=fun _=>rfl
 have dd : ∀x:Law28exchange,(aF1 e x).done_0=x.done_0∧(aF1 e x).done_1=x.done_1∧(aF1 e x).event=x.event:=fun _=>⟨rfl,rfl,rfl⟩
 have hd:aD1 e=procHandle (eA e).s c e.event e.now:=by unfold aD1;rw [hc];rfl
 have hdl:dlv f2 (eB e) (eA e) e.event e.now=(⟨(procSent e.sides_1 c).1,q,e.done_1,e.versions_1⟩,aft f2 (eA e) (aD1 e).1 (aD1 e).2.1 (aD1 e).2.2):= by
  unfold dlv
  have:(eB e).q=c::q:=hq
  rw [this,hd];rfl
 rw [hdl]
 unfold dX1 aft
 cases hl:(aD1 e).2.2 with
 | nil =>
  dsimp only
  rw [f1,f2',k1,k2,hc]
  exact ⟨rfl,rfl,rfl,rfl⟩
 | cons i l =>
  dsimp only
  cases (i.Kind==(8:Int))
  ·simp only [cond_false]
   rw [f1,f2',k1,k2,hc]
   exact ⟨rfl,rfl,rfl,rfl⟩
  ·simp only [cond_true]
   rw [f1,f2',k3,k4,k1,k2,hc]
   exact ⟨rfl,rfl,rfl,rfl⟩
theorem dlv1_ok {N D:Nat} {e:Law28exchange} (f2:Law28Talk) (h:XE N D e) (hN:N≤100000) (hg:goes1 e=true): DlvH1 f2 e∧∃m,N=m+1∧XE m D (dX1 f2 e):= by
 obtain ⟨hne,c,q,hq⟩:= goes1_is hg
 have hc:aC1 e=c:=by unfold aC1;rw [hq];rfl
 have hE:e.sides_0.Ended=0:=by
  rcases Int.lt_trichotomy e.sides_0.Ended 0 with h | h | h
  ·exact absurd (.inl (show e.sides_0.Ended≠0 by omega)) hne
  ·exact h
  ·exact absurd (.inl (show e.sides_0.Ended≠0 by omega)) hne
 have hk:okQ (aC1 e):= by rw [hc];exact h.x.ob.qq c (by show c∈e.queues_1;rw [hq];exact List.mem_cons_self ..)
 obtain ⟨z1,z2,z3,z4⟩:= hnd_sz e.sides_0 (aC1 e) e.event e.now hE hk h.x.oa.pl
 have hA:=ans_sz (aD1 e).1 f2.Found f2.Salt
 have w0:=h.w0
 have w1:=h.w1
 have hql:=h.q0
 have z1':(aD1 e).1.Waiting=e.sides_0.Waiting:=z1
 have z2':(aD1 e).1.Pending.length≤1:=z2
 have z3':(aD1 e).2.1.length≤1:=z3
 refine ⟨⟨by omega,z4,by omega,by rw [z1'];omega,by rw [List.length_append];have:(aA1 f2 e).2.length≤2:=hA;omega,by omega⟩, ?_⟩
 obtain ⟨e1,e2,e3,e4⟩:= dX1_is f2 hq z3'
 obtain ⟨m,hm,hx⟩:= dlvB_xi h.x f2 e.now hq hne
 refine ⟨m,hm, ?_,by rw [e2];exact h.d0,by rw [e3];exact h.d1⟩
 rw [e4]
 rw [←e1] at hx
 exact hx
theorem arr1_ok {N D:Nat} (f2:Law28Talk): ∀(n:Nat) {N:Nat} {e:Law28exchange},XE N D e→N≤100000→∃M,M≤N∧XE M D (arr1F f2 n e)∧(goes1 e=true→0 < n→M+1≤N):= by
 intro n
 induction n with
 | zero=>intro N e h _;exact ⟨N,Nat.le_refl _,h,fun _ h=>absurd h (Nat.lt_irrefl _)⟩
 | succ n ih =>
  intro N e h hN
  cases hg:goes1 e
  ·refine ⟨N,Nat.le_refl _, ?_,fun h=>by cases h⟩
   unfold arr1F
   rw [hg]
   exact h
  ·obtain ⟨_,m,hm,hx⟩:= dlv1_ok f2 h hN hg
   obtain ⟨M,h1,h2,_⟩:= ih hx (by omega)
   rw [arr1F_step hg]
   exact ⟨M,by omega,h2,fun _ _=>by omega⟩
theorem arr1_h {N D:Nat} {e:Law28exchange} (f2:Law28Talk) (h:XE N D e) (hN:N≤100000): ∃I:Law28exchange→Prop,I e∧∀e,I e→goes1 e=true→DlvH1 f2 e∧I (dX1 f2 e):=
 ⟨fun e => ∃M,M≤100000∧XE M D e,⟨N,hN,h⟩,fun e ⟨M,hM,hx⟩ hg=>by
  obtain ⟨h1,m,hm,hx⟩:= dlv1_ok f2 hx hM hg
  exact ⟨h1,m,by omega,hx⟩⟩
theorem start_sz (s:Procs) (c:Control) (ev now:Int): (procStart s c ev now).2.1.length≤1 :=
 start_el s c ev now (fun s' l=>l.length≤1) (Nat.zero_le _) (fun _ _ _=>Nat.zero_le _) (fun _ _=>Nat.le_refl _) ⟨by intros;exact Nat.le_refl _,by intros;exact Nat.le_refl _,by intros;exact Nat.le_refl _,by intros;exact Nat.le_refl _,by intros;exact Nat.le_refl _⟩
def stE0 (c:Control) (e:Law28exchange): Law28exchange:=putA0F {e with sides_0:=(procStart e.sides_0 c e.event e.now).1} (procStart e.sides_0 c e.event e.now).2.1
def stE1 (c:Control) (e:Law28exchange): Law28exchange:=putA1F {e with sides_1:=(procStart e.sides_1 c e.event e.now).1} (procStart e.sides_1 c e.event e.now).2.1
theorem stE0_ok {N D:Nat} {e:Law28exchange} (c:Control) (h:XE N D e) (hN:N≤100000): (e.queues_0.length+(procStart e.sides_0 c e.event e.now).2.1.length≤1000000)∧XE (N+5) D (stE0 c e):= by
 have hs:=start_sz e.sides_0 c e.event e.now
 obtain ⟨p1,p2⟩:= eA_putA0 {e with sides_0:=(procStart e.sides_0 c e.event e.now).1} (procStart e.sides_0 c e.event e.now).2.1 (by omega)
 have hq:=h.q0
 refine ⟨by omega, ?_,h.d0,h.d1⟩
 have e1:eA (stE0 c e)= stS (eA e) c e.event e.now:=p1
 have e2:eB (stE0 c e)= eB e:=p2
 rw [e1,e2]
 exact h.x.startA c e.now
theorem stE1_ok {N D:Nat} {e:Law28exchange} (c:Control) (h:XE N D e) (hN:N≤100000): (e.queues_1.length+(procStart e.sides_1 c e.event e.now).2.1.length≤1000000)∧XE (N+5) D (stE1 c e):= by
 have hs:=start_sz e.sides_1 c e.event e.now
 obtain ⟨p1,p2⟩:= eB_putA1 {e with sides_1:=(procStart e.sides_1 c e.event e.now).1} (procStart e.sides_1 c e.event e.now).2.1 (by omega)
 have hq:=h.q0
 refine ⟨by omega, ?_,h.d0,h.d1⟩
 have e1:eB (stE1 c e)= stS (eB e) c e.event e.now:=p1
 have e2:eA (stE1 c e)= eA e:=p2
 rw [e1,e2]
 exact h.x.startB c e.now
end Go.Aw.W
end
section
/- The exchange: run as a function, and what holds of what it hands back (own work). -/
set_option linter.unusedVariables false
namespace Go.Aw.W
open Go Go.Aw Go.Proofs
def nendB (e:Law28exchange): Bool:=!(bif e.sides_0.Ended != (0:Int) then true else e.sides_1.Ended != (0:Int))
def rndE (t:Law28Talk) (e:Law28exchange): Law28exchange:=arr1F t 100 (arr0F t 100 e)
def grB (e:Law28exchange): Bool:=bif decide ((0:Int) < (↑(List.length e.queues_0): Int)+ (↑(List.length e.queues_1): Int)) then nendB e else false
def inF (t:Law28Talk): Nat→Law28exchange→Law28exchange
 | 0,e=>e
 | n+1,e=>cond (grB e) (inF t n (rndE t e)) e
def evF (t:Law28Talk): Nat→Law28exchange→Law28exchange
 | 0,e=>e
 | n+1,e=>cond (nendB e) (evF t n (inF t 40 (begE e))) e
def stE (m:Law28Move) (e:Law28exchange): Law28exchange:=cond (bif m.Act then nendB e else false) (cond (Int.tmod m.Side 2==0) (stE0 m.Control e) (stE1 m.Control e)) e
def mvE (t:Law28Talk) (m:Law28Move) (e:Law28exchange): Law28exchange:=arr1F t m.Arrive_1.toNat (arr0F t m.Arrive_0.toNat (stE m (begE e)))
def mvF (t:Law28Talk): List Law28Move→Law28exchange→Law28exchange
 | [],e=>e
 | m::l,e=>cond (nendB e) (mvF t l (mvE t m e)) e
def e0 (t:Law28Talk): Law28exchange:={sides_0:=procNew 0 t.Features_0 t.Limits_0,sides_1:=procNew 1 t.Features_1 t.Limits_1,queues_0:=[],queues_1:=[],done_0:=[],done_1:=[],versions_0:=0,versions_1:=0,event:=0,now:=0}
def runX (t:Law28Talk): Law28exchange:=evF t 80 (mvF t t.Moves (e0 t))
theorem XE.mono {N D N' D':Nat} {e:Law28exchange} (h:XE N D e) (h1:N≤N') (h2:D≤D'): XE N' D' e:=⟨h.x.mono h1,Nat.le_trans h.d0 h2,Nat.le_trans h.d1 h2⟩
theorem nendB_is {e:Law28exchange}: nendB e=true ↔ ¬ended (eA e) (eB e):= by
 unfold nendB
 constructor
 ·intro h
  have h3:=bif_or (a:=e.sides_0.Ended != (0:Int)) (b:=e.sides_1.Ended != (0:Int)) (by simpa using h)
  rintro (h | h)
  ·exact h (show e.sides_0.Ended=0 by simpa using h3.1)
  ·exact h (show e.sides_1.Ended=0 by simpa using h3.2)
 ·intro h
  have h1:(e.sides_0.Ended != (0:Int))= false:=by
   cases hb:(e.sides_0.Ended != (0:Int))
   ·rfl
   ·exact absurd (.inl (show e.sides_0.Ended≠0 by simpa using hb)) h
  have h2:(e.sides_1.Ended != (0:Int))= false:=by
   cases hb:(e.sides_1.Ended != (0:Int))
   ·rfl
   ·exact absurd (.inr (show e.sides_1.Ended≠0 by simpa using hb)) h
  rw [h1,h2];rfl
theorem stE_ok {N D:Nat} {e:Law28exchange} (m:Law28Move) (h:XE N D e) (hN:N≤100000): XE (N+5) D (stE m e):= by
 unfold stE
 cases (bif m.Act then nendB e else false)
 ·exact h.mono (Nat.le_add_right _ _) (Nat.le_refl _)
 ·cases (Int.tmod m.Side 2==0)
  ·exact (stE1_ok m.Control h hN).2
  ·exact (stE0_ok m.Control h hN).2
theorem mvE_ok {N D:Nat} {e:Law28exchange} (t:Law28Talk) (m:Law28Move) (h:XE N D e) (hN:N≤90000) (hD:D≤90000): XE (N+15) (D+1) (mvE t m e):= by
 have h1:=(begin_ok h (by omega) (by omega)).2
 have h2:=stE_ok m h1 (by omega)
 obtain ⟨M,hM,h3,_⟩:= arr0_ok (N:=N) t m.Arrive_0.toNat h2 (by omega)
 obtain ⟨M2,hM2,h4,_⟩:= arr1_ok (N:=N) t m.Arrive_1.toNat h3 (by omega)
 exact h4.mono (by omega) (Nat.le_refl _)
theorem mvF_ok (t:Law28Talk): ∀(l:List Law28Move) {N D:Nat} {e:Law28exchange},XE N D e→N+15*l.length≤90000→D+l.length≤90000→XE (N+15*l.length) (D+l.length) (mvF t l e):= by
 intro l
 induction l with
 | nil=>intro N D e h _ _;exact h
 | cons m l ih =>
  intro N D e h hN hD
  simp only [List.length_cons] at hN hD ⊢
  unfold mvF
  cases (nendB e)
  ·exact h.mono (by omega) (by omega)
  ·exact (ih (mvE_ok t m h (by omega) (by omega)) (by omega) (by omega)).mono (by omega) (by omega)
theorem gr_is {e:Law28exchange} (h:grB e=true): nendB e=true∧(0 < e.queues_0.length∨0 < e.queues_1.length):= by
 obtain ⟨h1,h2⟩:= bif_and h
 simp only [decide_eq_true_eq] at h1
 exact ⟨h2,by omega⟩
theorem goes0_of {e:Law28exchange} (h:nendB e=true) (hq:0 < e.queues_0.length): goes0 e=true:=by
 unfold goes0
 have:decide ((0:Int) < (↑(List.length e.queues_0): Int))= true:=by simp only [decide_eq_true_eq];omega
 rw [this];exact h
theorem goes1_of {e:Law28exchange} (h:nendB e=true) (hq:0 < e.queues_1.length): goes1 e=true:=by
 unfold goes1
 have:decide ((0:Int) < (↑(List.length e.queues_1): Int))= true:=by simp only [decide_eq_true_eq];omega
 rw [this];exact h
theorem rnd_ok {N D:Nat} {e:Law28exchange} (t:Law28Talk) (h:XE N D e) (hN:N≤100000) (hg:grB e=true): ∃M,M+1≤N∧XE M D (rndE t e):= by
 obtain ⟨hn,hq⟩:= gr_is hg
 obtain ⟨M,hM,h3,p0⟩:= arr0_ok (N:=N) t 100 h hN
 obtain ⟨M2,hM2,h4,p1⟩:= arr1_ok (N:=N) t 100 h3 (by omega)
 by_cases h0:0 < e.queues_0.length
 ·have:=p0 (goes0_of hn h0) (by decide)
  exact ⟨M2,by omega,h4⟩
 ·have hz:arr0F t 100 e=e:=arr0F_stop (by
   have:decide ((0:Int) < (↑(List.length e.queues_0): Int))= false:=by simp only [decide_eq_false_iff_not];omega
   unfold goes0
   rw [this];rfl)
  have:=p1 (by rw [hz];exact goes1_of hn (hq.resolve_left h0)) (by decide)
  exact ⟨M2,by omega,h4⟩
theorem inF_ok (t:Law28Talk): ∀(n:Nat) {N D:Nat} {e:Law28exchange},XE N D e→N≤100000→∃M,M≤N∧XE M D (inF t n e)∧(grB (inF t n e)= false∨M+n≤N):= by
 intro n
 induction n with
 | zero=>intro N D e h _;exact ⟨N,Nat.le_refl _,h, .inr (Nat.le_refl _)⟩
 | succ n ih =>
  intro N D e h hN
  unfold inF
  cases hg:grB e
  ·exact ⟨N,Nat.le_refl _,h, .inl hg⟩
  ·obtain ⟨M,hM,h1⟩:= rnd_ok t h hN hg
   obtain ⟨M2,hM2,h2,h3⟩:= ih h1 (by omega)
   refine ⟨M2,by omega,h2, ?_⟩
   rcases h3 with h3 | h3
   ·exact .inl h3
   ·exact .inr (by omega)
theorem still {e:Law28exchange} (h:grB e=false) (hn:nendB e=true): e.queues_0=[]∧e.queues_1=[]:= by
 unfold grB at h
 rw [hn] at h
 have h:decide ((0:Int) < (↑(List.length e.queues_0): Int)+ (↑(List.length e.queues_1): Int))= false:=by
  revert h;cases decide ((0:Int) < (↑(List.length e.queues_0): Int)+ (↑(List.length e.queues_1): Int)) <;> intro h
  ·rfl
  ·cases h
 simp only [decide_eq_false_iff_not] at h
 exact ⟨List.eq_nil_of_length_eq_zero (by omega),List.eq_nil_of_length_eq_zero (by omega)⟩
theorem two {N D:Nat} {e:Law28exchange} (h:XE N D e) (h0:e.queues_0=[]) (h1:e.queues_1=[]): XE 2 D e:=by
 refine ⟨⟨h.x.oa,h.x.ob, ?_,h.x.e0,h.x.e1,h.x.j⟩,h.d0,h.d1⟩
 unfold ph
 have q0:(eA e).q=[]:= h0
 have q1:(eB e).q=[]:= h1
 rw [q0,q1]
 simp only [qw]
 unfold nv
 split <;> split <;> omega
def Ev (i D:Nat) (e:Law28exchange): Prop:=∃N,N≤1000∧XE N D e∧(nendB e=true→(N+30*i≤902∨(e.queues_0=[]∧e.queues_1=[])))
theorem ev_step {i D:Nat} {e:Law28exchange} (t:Law28Talk) (h:Ev i D e) (hD:D≤90000) (hn:nendB e=true): Ev (i+1) (D+1) (inF t 40 (begE e)):= by
 obtain ⟨N,hN,hx,hq⟩:= h
 rcases hq hn with hq | ⟨q0,q1⟩
 ·have h1:=(begin_ok hx (by omega) (by omega)).2
  obtain ⟨M,hM,h2,h3⟩:= inF_ok t 40 h1 (by omega)
  refine ⟨M,by omega,h2,fun he=>?_⟩
  rcases h3 with h3 | h3
  ·exact .inr (still h3 he)
  ·exact .inl (by omega)
 ·have h1:=(begin_ok (two hx q0 q1) (by omega) (by omega)).2
  obtain ⟨M,hM,h2,h3⟩:= inF_ok t 40 h1 (by omega)
  refine ⟨M,by omega,h2,fun he=>?_⟩
  rcases h3 with h3 | h3
  ·exact .inr (still h3 he)
  ·omega
theorem evF_ok (t:Law28Talk): ∀(n i D:Nat) {e:Law28exchange},Ev i D e→D+n≤90000→i+n=80→Ev 80 (D+n) (evF t n e)∨(nendB (evF t n e)= false∧∃N,N≤1000∧XE N (D+n) (evF t n e)):= by
 intro n
 induction n with
 | zero=>
  intro i D e h _ hi
  have:i=80:=by omega
  subst this;exact .inl h
 | succ n ih =>
  intro i D e h hD hi
  unfold evF
  cases hn:nendB e
  ·obtain ⟨N,hN,hx,_⟩:= h
   exact .inr ⟨hn,N,hN,hx.mono (Nat.le_refl _) (by omega)⟩
  ·have:=ih (i+1) (D+1) (ev_step t h (by omega) hn) (by omega) (by omega)
   rw [show D+1+n=D+(n+1) by omega] at this
   exact this
theorem e0_ok (t:Law28Talk): XE 2 0 (e0 t):= ⟨XI.init _ _ _ _,Nat.le_refl _,Nat.le_refl _⟩
theorem mv_all (t:Law28Talk) (hm:t.Moves.length≤60): Ev 0 60 (mvF t t.Moves (e0 t)):= by
 have h:=mvF_ok t t.Moves (e0_ok t) (by omega) (by omega)
 exact ⟨2+15*t.Moves.length,by omega,h.mono (Nat.le_refl _) (by omega),fun _ => .inl (by omega)⟩
theorem runX_ok (t:Law28Talk) (hm:t.Moves.length≤60): ∃N,XE N 140 (runX t)∧(nendB (runX t)= true→(runX t).queues_0=[]∧(runX t).queues_1=[]):= by
 rcases evF_ok t 80 0 60 (mv_all t hm) (by omega) (by omega) with ⟨N,hN,hx,hq⟩| ⟨hn,N,hN,hx⟩
 ·refine ⟨N,hx,fun he=>?_⟩
  rcases hq he with h | h
  ·omega
  ·exact h
 ·exact ⟨N,hx,fun he=>by rw [show nendB (runX t)= false from hn] at he;cases he⟩
end Go.Aw.W
end
