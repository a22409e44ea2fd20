/- The law of plays of chapter 22: the scanner is the document's. -/
import Derived.Test.YtppceadhdckpmaaGreatDoorXP4
set_option linter.unusedVariables false
set_option maxRecDepth 8000
namespace Go.Aw.W
open Go Go.Aw Go.Proofs
attribute [local irreducible] pFind r9Find scEntry pDerive pCheck r19Check accHas r20Has r6Derive r22Entry r20Element
theorem maxI_swap (x:Int): maxI x 1=maxI 1 x:=by unfold maxI;split <;> split <;> omega
theorem minI_swap (x:Int): minI x 256=minI 256 x:=by unfold minI;split <;> split <;> omega
theorem back_eq (u:Scanner) (hs:U64 u.Seed): hea.bk u=r22Back u:=by
 unfold hea.bk r22Back
 rw [derive_eq u.Seed bkof [] hs (by decide) (by decide) (by simp),maxI_swap]
 rfl
theorem back_seed (u:Scanner) (hs:U64 u.Seed): U64 (r22Back u).Seed:=derive_range u.Seed _ []
theorem succ_eq (s:Scanner) (hs:U64 s.Seed): cond (IntKind.wrap IntKind.i64 (s.Wins+1)== 2) (hea.two s) (hea.one s)= r22Succ s:=by
 unfold hea.two hea.one r22Succ
 rw [back_eq {s with Upper:=maxI (IntKind.wrap IntKind.i64 (Int.tdiv s.Upper 2)) 1,Fails:=0,Wins:=0,Wait:=⟨0,0⟩} hs,back_eq {s with Fails:=0,Wins:=IntKind.wrap IntKind.i64 (s.Wins+1),Wait:=⟨0,0⟩} hs,maxI_swap]
theorem succ_seed (s:Scanner) (hs:U64 s.Seed): U64 (r22Succ s).Seed:=by
 unfold r22Succ
 cases (IntKind.wrap IntKind.i64 (s.Wins+(1:Int))== (2:Int))
 ·exact back_seed {s with Fails:=0,Wins:=IntKind.wrap IntKind.i64 (s.Wins+1),Wait:=⟨0,0⟩} hs
 ·exact back_seed {s with Upper:=maxI 1 (IntKind.wrap IntKind.i64 (Int.tdiv s.Upper 2)),Fails:=0,Wins:=0,Wait:=⟨0,0⟩} hs
theorem miss_eq (s:Scanner) (hs:U64 s.Seed): scMiss s=r22Miss s:=by
 have e:scMiss s=cond (bif !s.On then true else (s.Wait.Kind==0 && s.Wait.Bits==0)) s (cond (IntKind.wrap IntKind.i64 (s.Fails+1)== 2) (hea.bk {s with Upper:=minI (IntKind.wrap IntKind.i64 (2*s.Upper)) 256,Fails:=0,Wins:=0,Wait:=⟨0,0⟩}) (hea.bk {s with Fails:=IntKind.wrap IntKind.i64 (s.Fails+1),Wins:=0,Wait:=⟨0,0⟩})):= by
  unfold scMiss
  rw [scOwn_eq]
  rfl
 rw [e,back_eq {s with Upper:=minI (IntKind.wrap IntKind.i64 (2*s.Upper)) 256,Fails:=0,Wins:=0,Wait:=⟨0,0⟩} hs,back_eq {s with Fails:=IntKind.wrap IntKind.i64 (s.Fails+1),Wins:=0,Wait:=⟨0,0⟩} hs,minI_swap]
 rfl
theorem miss_seed (s:Scanner) (hs:U64 s.Seed): U64 (r22Miss s).Seed:=by
 unfold r22Miss
 cases (bif !s.On then true else s.Wait.Kind==0 && s.Wait.Bits==0)
 ·rw [cond_false]
  cases (IntKind.wrap IntKind.i64 (s.Fails+1)== 2)
  ·exact back_seed {s with Fails:=IntKind.wrap IntKind.i64 (s.Fails+1),Wins:=0,Wait:=⟨0,0⟩} hs
  ·exact back_seed {s with Upper:=minI 256 (IntKind.wrap IntKind.i64 (2*s.Upper)),Fails:=0,Wins:=0,Wait:=⟨0,0⟩} hs
 ·exact hs
structure Kn (u:Scanner) (p:AdvPDU): Prop where
 ids : ∀x∈u.Params.Identities,U64 x.IRK
 il:u.Params.Identities.length≤4611686018427387904
 al:u.Params.Accept.length≤4611686018427387904
 sl:u.Seen.length≤4611686018427387904
 p:p.has
theorem entry_eq {u:Scanner} {q:AdvPDU} (h:Kn u q): r22Entry u.Params.Identities q=scEntry u q:=by
 unfold r22Entry scEntry r22name
 rw [find_eq u.Params.Identities q.Sender (hasA h.p.2.1) h.ids h.il]
 cases decide (0≤r9Find u.Params.Identities q.Sender) <;> cases (q.Kind==4) <;> rfl
theorem for_eq {u:Scanner} {p:AdvPDU} (h:Kn u p): scIsFor u p=r22For u p:=by
 unfold scIsFor r22For
 rw [pCheck_eq p h.p]
 cases (r19Check p != 0)
 ·rw [cond_false,cond_false]
  by_cases h0:p.Kind=0
  ·rw [h0];rfl
  by_cases h1:p.Kind=1
  ·rw [h1];rfl
  by_cases h2:p.Kind=2
  ·rw [h2];rfl
  by_cases h4:p.Kind=4
  ·rw [h4];rfl
  by_cases h6:p.Kind=6
  ·rw [h6];rfl
  rw [beq_eq_false_iff_ne.2 h0,beq_eq_false_iff_ne.2 h1,beq_eq_false_iff_ne.2 h2,beq_eq_false_iff_ne.2 h4,beq_eq_false_iff_ne.2 h6]
  rfl
 ·rfl
theorem out_eq {u:Scanner} {p:AdvPDU} (h:Kn u p): hea.out u p = !r22Passes u.Params p.Sender:=by
 unfold hea.out r22Passes
 have e:accHas (clA u.Params.Accept) (clI u.Params.Identities) p.Sender=r20Has u.Params.Accept u.Params.Identities p.Sender:=accHas_eq _ _ _ h.al h.il (hasA h.p.2.1) h.ids
 rw [e,bne]
 cases (u.Params.Policy==0) <;> rfl
theorem mid_eq {u:Scanner} {p:AdvPDU} (h:Kn u p) (c t:Int): hea.mid u p c t=cond (!r22Passes u.Params p.Sender) (u,[],[]) (hea.fin (r22report u p (r21Place t)).1 p c t (r22report u p (r21Place t)).2):= by
 have e1:List.any (clA u.Seen) (rep.hit u p)= r20Element u.Seen (r22Entry u.Params.Identities p):= by
  rw [element_eq _ _ h.sl,entry_eq h]
  rfl
 have e2 : ∀v:Scanner,v.Params=u.Params→hea.rep v p t={Time:=r21Place t,Kind:=p.Kind,Sender:=p.Sender,Identity:=r9Find u.Params.Identities p.Sender,Data:=[]++ p.Data}:= by
  intro v hv
  unfold hea.rep clI clB
  rw [hv,moment22_eq,find_eq u.Params.Identities p.Sender (hasA h.p.2.1) h.ids h.il]
  rfl
 unfold hea.mid r22report
 rw [out_eq h,e1,e2 u rfl,←entry_eq h]
 cases hu:u.Params.Unique
 ·rfl
 ·cases r20Element u.Seen (r22Entry u.Params.Identities p)
  ·have e3 : ∀(b:Bool) (X Y:Scanner×List Report),hea.fin (cond b X Y).1 p c t (cond b X Y).2=cond b (hea.fin X.1 p c t X.2) (hea.fin Y.1 p c t Y.2):= by
    intro b X Y;cases b <;> rfl
   rw [cond_true,cond_true,cond_false,cond_true,cond_false,e3]
   have e4 : ∀(w:Scanner),({Params:={Interval:=w.Params.Interval,Window:=w.Params.Window,Active:=w.Params.Active,Policy:=w.Params.Policy,Accept:=w.Params.Accept,Identities:=w.Params.Identities,Own:=⟨w.Params.Own.Kind,w.Params.Own.Bits⟩,Unique:=w.Params.Unique},On:=w.On,Start:=w.Start,Upper:=w.Upper,Count:=w.Count,Fails:=w.Fails,Wins:=w.Wins,Wait:=⟨w.Wait.Kind,w.Wait.Bits⟩,Seen:=w.Seen,Seed:=w.Seed}: Scanner)= w:=fun w=>rfl
   rw [←hu]
   rfl
  ·rfl
theorem fin_tree (u:Scanner) (p:AdvPDU) (c t:Int) (r:List Report): hea.fin u p c t r=cond (bif bif !u.Params.Active then true else !(u.Wait.Kind==(0:Int) && u.Wait.Bits==(0:Int)) then true else !r19Scan p.Kind) (u,r,[]) (cond (IntKind.wrap IntKind.i64 (u.Count - (1:Int)) != (0:Int)) ({u with Count:=IntKind.wrap IntKind.i64 (u.Count - (1:Int))},r,[]) ({u with Count:=IntKind.wrap IntKind.i64 (u.Count - (1:Int)),Wait:=p.Sender},r,[{Channel:=c,Time:=IntKind.wrap IntKind.i64 (r21Place t+(150:Int)),PDU:={Kind:=3,Sender:=u.Params.Own,Target:=p.Sender,Data:=[],Conn:={Access:=0,Init:=0,Update:={WinSize:=0,WinOffset:=0,Interval:=0,Latency:=0,Timeout:=0},Map:=0,Hop:=0,PPM:=0,Algorithm:=0}}}])):= by
 unfold hea.fin hea.req
 rw [moment22_eq]
 rfl
theorem hear_eq {s:Scanner} {p:AdvPDU} (h:Kn s p) (hs:U64 s.Seed) (c t:Int): scHear s p c t=r22Hear s p c t:=by
 have h':Kn (r22Succ s) p:=⟨by rw [succ_par];exact h.ids,by rw [succ_par];exact h.il,by rw [succ_par];exact h.al,by rw [succ_seen];exact h.sl,h.p⟩
 have e:scHear s p c t=cond (hea.deaf s p c) (s,[],[]) (cond (p.Kind==4) (hea.mid (r22Succ s) p c t) (hea.mid s p c t)):= by
  unfold scHear
  rw [←succ_eq s hs]
  cases (IntKind.wrap IntKind.i64 (s.Wins+1)== 2) <;> rfl
 rw [e,mid_eq h',mid_eq h,fin_tree,fin_tree]
 unfold hea.deaf r22Hear
 rw [for_eq h]
theorem hear_seed (s:Scanner) (p:AdvPDU) (c t:Int) (hs:U64 s.Seed): U64 (r22Hear s p c t).1.Seed:=by
 have hc : ∀(b:Bool) (X Y:Scanner×List Report×List Send),U64 X.1.Seed→U64 Y.1.Seed→U64 (cond b X Y).1.Seed:=by
  intro b X Y hX hY
  cases b
  ·exact hY
  ·exact hX
 have hr : ∀u:Scanner,U64 u.Seed→∀t,U64 (r22report u p t).1.Seed:=by
  intro u hu t
  have hd : ∀(b:Bool) (X Y:Scanner×List Report),U64 X.1.Seed→U64 Y.1.Seed→U64 (cond b X Y).1.Seed:=by
   intro b X Y hX hY
   cases b
   ·exact hY
   ·exact hX
  unfold r22report
  repeat' (first | exact hu | apply hd)
 have h1:=hr s hs
 have h2:=hr _ (succ_seed s hs)
 have h3:=succ_seed s hs
 unfold r22Hear
 repeat' (first | exact hs | exact h3 | exact h1 _ | exact h2 _ | apply hc)
theorem reports_go (a:List Report) (hl:a.length≤4611686018427387904): ∀(n:Nat) (i:Int),0≤i→i≤a.length→(a.length - i).toNat < n→r22SameReports.go a a n i=true
 | 0,i,h0,h1,h2=>by omega
 | n+1,i,h0,h1,h2=>by
  unfold r22SameReports.go
  by_cases hi:i < a.length
  ·rw [decide_eq_true hi,cond_true,same2_refl,wi64 (i+(1:Int)) (by omega) (by omega),reports_go a hl n (i+1) (by omega) (by omega) (by omega)]
   simp
  ·rw [decide_eq_false hi,cond_false]
theorem reports_refl (a:List Report) (hl:a.length≤4611686018427387904): r22SameReports a a=true:=by
 unfold r22SameReports
 rw [show ((a.length:Int) != (a.length:Int))= false by simp,cond_false]
 exact reports_go a hl _ _ (by omega) (by omega) (by omega)
theorem sends_one (s:Scanner) (p:AdvPDU) (c t:Int): (r22Hear s p c t).2.2.length≤1∧(r22Hear s p c t).2.1.length≤1:=by
 have hc : ∀(b:Bool) (X Y:Scanner×List Report×List Send),(X.2.2.length≤1∧X.2.1.length≤1)→(Y.2.2.length≤1∧Y.2.1.length≤1)→((cond b X Y).2.2.length≤1∧(cond b X Y).2.1.length≤1):= by
  intro b X Y hX hY
  cases b
  ·exact hY
  ·exact hX
 have h1:=fun u t=>(rrep_all u p t).2.2.2
 unfold r22Hear
 repeat' (first | exact ⟨Nat.zero_le _,Nat.zero_le _⟩| exact ⟨Nat.zero_le _,h1 _ _⟩| exact ⟨Nat.le_refl _,h1 _ _⟩| apply hc)
theorem plays_go (p:ScanParams) (p1:Law22At) (ops:List Law22Op) (hl:ops.length≤100) (ho : ∀k,AdvPDU.has (List.getD ops k Law22Op.zero).PDU): ∀(n:Nat) (i now:Int) (u:Scanner),(∀x∈u.Params.Identities,U64 x.IRK)→u.Params.Identities.length≤100→u.Params.Accept.length≤100→u.Seen.length≤i→U64 u.Seed→0≤i→i≤ops.length→(ops.length - i).toNat < n→scannerPlays.go p p1 ops n i now u u=true
 | 0,i,now,u,k1,k2,k3,k4,k5,h0,h1,h2=>by omega
 | n+1,i,now,u,k1,k2,k3,k4,k5,h0,h1,h2=>by
  unfold scannerPlays.go
  by_cases hit:i < ops.length
  ·rw [decide_eq_true hit,cond_true,wi64 (i+(1:Int)) (by omega) (by omega)]
   have hq:=ho (Int.toNat i)
   rw [copied22_eq]
   generalize (List.getD ops (Int.toNat i) Law22Op.zero)= o at hq ⊢
   rw [hear_eq (p:=o.PDU) ⟨k1,by omega,by omega,by omega,hq⟩ k5,miss_eq u k5,stop_eq]
   have same : ∀v:Scanner,v.Params=u.Params→v.Seen.length≤i+1→U64 v.Seed→∀now',(r22Same v v=true∧scannerPlays.go p p1 ops n (i+1) now' v v=true):= by
    intro v e1 e2 e3 now'
    exact ⟨r22Same_refl v (by rw [e1];omega) (by rw [e1];omega) (by omega),plays_go p p1 ops hl ho n (i+1) now' v (by rw [e1];exact k1) (by rw [e1];exact k2) (by rw [e1];exact k3) e2 e3 (by omega) (by omega) (by omega)⟩
   have cc : ∀(v:Scanner) (now':Int),r22Same v v=true→scannerPlays.go p p1 ops n (i+1) now' v v=true→cond (!r22Same v v) false (scannerPlays.go p p1 ops n (i+1) now' v v)= true:=by
    intro v now' q1 q2
    rw [q1];exact q2
   cases (o.Do==0)
   ·rw [cond_false]
    cases (o.Do==1)
    ·rw [cond_false]
     cases (o.Do==2)
     ·have:=same u rfl (by omega) k5
      exact cc u _ (this 0).1 (this _).2
     ·have:=same (r22Stop u) (rstop_all u).1 (by rw [(rstop_all u).2.1];omega) k5
      exact cc _ _ (this 0).1 (this _).2
    ·have:=same (r22Miss u) (rmiss_par u) (by rw [rmiss_seen];omega) (miss_seed u k5)
     exact cc _ _ (this 0).1 (this _).2
   ·rw [cond_true]
    have hb:=sends_one u o.PDU o.Channel (IntKind.wrap IntKind.i64 (now+maxI 0 (minI o.Wait 1073741824)))
    rw [reports_refl _ (by omega),sends_refl _ (by omega)]
    have:=same (r22Hear u o.PDU o.Channel (IntKind.wrap IntKind.i64 (now+maxI 0 (minI o.Wait 1073741824)))).1 (rhear_par _ _ _ _) (rhear_seenI _ _ _ _ _ (by omega)) (hear_seed _ _ _ _ k5)
    exact cc _ _ (this 0).1 (this _).2
  ·rw [decide_eq_false hit,cond_false]
theorem ops_pdu {ops:List Law22Op} (h : ∀y∈ops,Law22Op.has y) (k:Nat): AdvPDU.has (List.getD ops k Law22Op.zero).PDU:=by
 rw [List.getD_eq_getElem?_getD]
 cases hk:ops[k]? with
 | none =>
  have z:=zero_has
  exact ⟨z _,⟨z _,z _⟩,⟨z _,z _⟩,⟨(by intro y hy;cases hy),by decide⟩,⟨z _,z _,⟨z _,z _,z _,z _,z _⟩,z _,z _,z _,z _⟩⟩
 | some y=>exact (h y (List.mem_of_getElem? hk)).2.2.1
theorem scannerPlays_pre (p:ScanParams) (p1:Law22At) (ops:List Law22Op) (b0:p.has) (b1:p1.has) (b2:(∀y∈ops,Law22Op.has y)∧ops.length*168≤140737488351232): ∀k:Nat,(List.getD ops k Law22Op.zero).PDU.Data.length≤140737488355328:=by
 intro k
 have h:=(ops_pdu b2.1 k).2.2.2.1.2
 omega
theorem rstart_keep (p:ScanParams) (seed t:Int) (hs:U64 seed) (h:(r22Start p seed t).2=0): (r22Start p seed t).1.Params=p∧(r22Start p seed t).1.Seed=seed:=by
 have hc : ∀(b:Bool) (X Y:Scanner×Int),(X.2=0→X.1.Params=p∧X.1.Seed=seed)→(Y.2=0→Y.1.Params=p∧Y.1.Seed=seed)→(cond b X Y).2=0→(cond b X Y).1.Params=p∧(cond b X Y).1.Seed=seed:=by
  intro b X Y hX hY
  cases b
  ·exact hY
  ·exact hX
 revert h
 unfold r22Start
 refine hc _ _ _ (fun h=>absurd h (show ¬((5:Int)= 0) by decide)) ?_
 refine hc _ _ _ (fun h=>absurd h (show ¬((11:Int)= 0) by decide)) ?_
 refine hc _ _ _ (fun h=>absurd h (show ¬((5:Int)= 0) by decide)) ?_
 refine hc _ _ _ (fun h=>absurd h (show ¬((4:Int)= 0) by decide)) ?_
 by_cases ha:r8Check p.Own=0
 ·rw [ha]
  intro _
  exact ⟨rfl,rfl⟩
 ·have hb:(r8Check p.Own != 0)= true:=by rw [bne_iff_ne];exact ha
  rw [hb]
  intro h
  exact absurd h ha
theorem scannerPlays_true (p:ScanParams) (p1:Law22At) (ops:List Law22Op) (b0:p.has) (b1:p1.has) (b2:(∀y∈ops,Law22Op.has y)∧ops.length*168≤140737488351232): scannerPlays p p1 ops=true:=by
 unfold scannerPlays
 cases hs:small22 p
 ·rfl
 have hl:p.Accept.length≤100∧p.Identities.length≤100:=by
  unfold small22 at hs
  by_cases c:((p.Accept.length:Int)≤100)
  ·rw [decide_eq_true c,cond_true,decide_eq_true_eq] at hs
   omega
  ·rw [decide_eq_false c] at hs;cases hs
 by_cases h100:(100:Int) < (ops.length:Int)
 ·rw [decide_eq_true h100];rfl
 rw [decide_eq_false h100,own22_eq,start22_eq p _ _ b0]
 by_cases hz:(r22Start p p1.Seed p1.Start).2=0
 ·have hk:=rstart_keep p p1.Seed p1.Start (has_u64 b1.1) hz
  have hn:=rstart_all p p1.Seed p1.Start
  rw [hz]
  exact plays_go p p1 ops (by omega) (ops_pdu b2.1) _ 0 _ _ (by rw [hk.1];exact ids_has b0.2.2.2.2.2.1.1) (by rw [hk.1];exact hl.2) (by rw [hk.1];exact hl.1) (by rw [hn.2.2.1];exact Int.le_refl _) (by rw [hk.2];exact has_u64 b1.1) (by omega) (by omega) (by omega)
 ·rw [show ((r22Start p p1.Seed p1.Start).2 != 0)= true by rw [bne_iff_ne];exact hz]
  simp
end Go.Aw.W
