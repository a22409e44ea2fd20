/- The laws of chapter 22: starts, initiates. -/
import Derived.Test.YtppceadhdckpmaaDoorXChk
import Derived.Test.YtppceadhdckpmaaDoorXW26
set_option linter.unusedVariables false
set_option maxRecDepth 8000
namespace Go.Aw.W
open Go Go.Aw Go.Proofs
theorem lives22_true:lives22=true:=rfl
theorem moment22_eq (t:Int): scMoment t=r21Place t:=by
 unfold scMoment r21Place minI maxI
 split <;> split <;> (try split) <;> (try split) <;> omega
theorem start22_eq (p:ScanParams) (seed t:Int) (h:p.has): scStart p seed t=r22Start p seed t:=by
 have ha:HasA p.Own:=hasA (by first | exact h.2.2.2.2.2.2.1 | exact h.2.2.2.2.2.1 | exact h.2.2.2.2.1)
 unfold scStart r22Start
 rw [aCheck_eq _ ha,moment22_eq]
 rfl
theorem chan_tree (a b:Bool) (X Y:Int×Bool): cond a X (cond b X Y)= cond (bif a then true else b) X Y:=by
 cases a <;> cases b <;> rfl
theorem chan22_eq (s:Scanner) (t:Int): scChannel s t=r22Channel s t:=by
 unfold scChannel r22Channel
 rw [moment22_eq]
 exact chan_tree _ _ _ _
theorem ids_go (a:List Identity) (hl:a.length≤4611686018427387904): ∀(n:Nat) (i:Int),0≤i→i≤a.length→(a.length - i).toNat < n→r21SameIds.go a a n i=true
 | 0,i,h0,h1,h2=>by omega
 | n+1,i,h0,h1,h2=>by
  unfold r21SameIds.go
  by_cases hi:i < a.length
  ·rw [decide_eq_true hi,cond_true,wi64 (i+(1:Int)) (by omega) (by omega),ids_go a hl n (i+1) (by omega) (by omega) (by omega)]
   simp
  ·rw [decide_eq_false hi,cond_false]
theorem ids_refl (a:List Identity) (hl:a.length≤4611686018427387904): r21SameIds a a=true:=by
 unfold r21SameIds
 rw [show ((a.length:Int) != (a.length:Int))= false by simp,cond_false]
 exact ids_go a hl _ _ (by omega) (by omega) (by omega)
theorem r22Same_refl (a:Scanner) (h0:a.Params.Accept.length≤4611686018427387904) (h1:a.Params.Identities.length≤4611686018427387904) (h2:a.Seen.length≤4611686018427387904): r22Same a a=true:=by
 unfold r22Same
 rw [same_refl _ h0,ids_refl _ h1,same_refl _ h2]
 simp
theorem r22Start_len (p:ScanParams) (seed t:Int) (hs:small22 p=true): (r22Start p seed t).1.Params.Accept.length≤100∧(r22Start p seed t).1.Params.Identities.length≤100∧(r22Start p seed t).1.Seen.length=0:=by
 have h:p.Accept.length≤100∧p.Identities.length≤100:=by
  unfold small22 at hs
  by_cases c:((p.Accept.length:Int)≤100)
  ·rw [decide_eq_true c,cond_true,decide_eq_true_eq] at hs
   omega
  ·rw [decide_eq_false c] at hs;cases hs
 unfold r22Start
 have hc : ∀(b:Bool) (X Y:Scanner×Int),(X.1.Params.Accept.length≤100∧X.1.Params.Identities.length≤100∧X.1.Seen.length=0)→(Y.1.Params.Accept.length≤100∧Y.1.Params.Identities.length≤100∧Y.1.Seen.length=0)→((cond b X Y).1.Params.Accept.length≤100∧(cond b X Y).1.Params.Identities.length≤100∧(cond b X Y).1.Seen.length=0):= by
  intro b X Y hX hY
  cases b
  ·exact hY
  ·exact hX
 repeat' (first | exact ⟨Nat.zero_le _,Nat.zero_le _,rfl⟩| exact ⟨h.1,h.2,rfl⟩| apply hc)
theorem scannerStarts_true (p:ScanParams) (x:Law22At) (b0:p.has) (b1:x.has): scannerStarts p x=true:=by
 unfold scannerStarts
 cases hs:small22 p
 ·rfl
 ·have hl:=r22Start_len p x.Seed x.Start hs
  rw [own22_eq,start22_eq p _ _ b0,chan22_eq,r22Same_refl _ (by omega) (by omega) (by omega)]
  simp
theorem same2_refl (b:List Int): r2Same b b=true:=by unfold r2Same strEq;simp
theorem r19Same_refl (p:AdvPDU): r19Same p p=true:=by
 unfold r19Same
 rw [same2_refl]
 simp
theorem sends_go (a:List Send) (hl:a.length≤4611686018427387904): ∀(n:Nat) (i:Int),0≤i→i≤a.length→(a.length - i).toNat < n→r21SameSends.go a a n i=true
 | 0,i,h0,h1,h2=>by omega
 | n+1,i,h0,h1,h2=>by
  unfold r21SameSends.go
  by_cases hi:i < a.length
  ·rw [decide_eq_true hi,cond_true,r19Same_refl,wi64 (i+(1:Int)) (by omega) (by omega),sends_go a hl n (i+1) (by omega) (by omega) (by omega)]
   simp
  ·rw [decide_eq_false hi,cond_false]
theorem sends_refl (a:List Send) (hl:a.length≤4611686018427387904): r21SameSends a a=true:=by
 unfold r21SameSends
 rw [show ((a.length:Int) != (a.length:Int))= false by simp,cond_false]
 exact sends_go a hl _ _ (by omega) (by omega) (by omega)
theorem zero_has (k:IntKind): IntKind.has k 0:=by cases k <;> simp [IntKind.has,IntKind.min,IntKind.max,IntKind.bits,IntKind.signed]
theorem five_has:IntKind.has .i64 5:=by simp [IntKind.has,IntKind.min,IntKind.max,IntKind.bits,IntKind.signed]
theorem or4 (a b c d:Bool): (bif bif bif a then true else b then true else c then true else d)= (bif bif bif c then true else d then true else a then true else b):= by
 cases a <;> cases b <;> cases c <;> cases d <;> rfl
theorem conn22 (k:Int): aConn k=r19Conn k:=by unfold aConn r19Conn;rfl
theorem init22_eq (own to:Address) (ids:List Identity) (c:ConnParams) (p:AdvPDU) (ch t:Int) (ho:own.has) (hi : ∀y∈ids,Identity.has y) (hl:ids.length≤4611686018427) (hc:c.has) (hp:p.has): scInit own to ids c p ch t=r22Initiate own to ids c p ch t:=by
 unfold scInit r22Initiate
 have hq:AdvPDU.has ({Kind:=(5:Int),Sender:=own,Target:=p.Sender,Data:=[],Conn:=c}: AdvPDU):= ⟨five_has,ho,hp.2.1,⟨by simp,by simp⟩,hc⟩
 rw [find_eq ids p.Sender (hasA hp.2.1) (fun y hy=>has_u64 (hi y hy).2) (by omega),pCheck_eq p hp,pCheck_eq _ hq,moment22_eq,conn22,or4]
theorem init_tree (e x:Bool) (he:e=true) (hx:x=true) (R S2 T:Bool): (bif e then x else false)= true:=by
 rw [he,hx];rfl
theorem scannerInitiates_pre (x:Law22Ask) (c:ConnParams) (p:AdvPDU) (b0:x.has) (b1:c.has) (b2:p.has): p.Data.length≤140737488355328:=by
 have h1:=b2.2.2.2.1.2
 omega
theorem scannerInitiates_true (x:Law22Ask) (c:ConnParams) (p:AdvPDU) (b0:x.has) (b1:c.has) (b2:p.has): scannerInitiates x c p=true:=by
 unfold scannerInitiates
 have hl:=b0.2.2.1.2
 by_cases h100:(100:Int) < (x.Identities.length:Int)
 ·rw [decide_eq_true h100];rfl
 ·rw [decide_eq_false h100,copied22_eq,List.nil_append,init22_eq x.Own x.To x.Identities c p x.Channel x.Local b0.1 b0.2.2.1.1 (by omega) b1 b2,sends_refl _ (by simp)]
  simp
end Go.Aw.W
