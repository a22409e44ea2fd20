/- Contracts of the seat (printed by ct.py). -/
import Derived.Test.YtppceadhdckpmaaGreatDoorXW33
set_option linter.unusedVariables false
set_option linter.unusedSimpArgs false
set_option maxRecDepth 20000
set_option maxHeartbeats 1000000
namespace Go.Aw.W
open Go Go.Aw Go.Proofs
attribute [local irreducible] evCode evFun evOps evDs evOne ctxK loopK loopB subC bodyC headS okH roundK
attribute [local irreducible] pFind r9Find pCheck r19Check scHear scStart scMiss scStop scChannel scOwn r22Start lives22 own22 copied22 r22Back r22Entry r22Succ r22Miss r22Stop r22report r22For r22Passes r22Hear
theorem fin_par (u:Scanner) (p:AdvPDU) (c t:Int) (r:List Report): (hea.fin u p c t r).1.Params=u.Params∧(hea.fin u p c t r).1.Seen=u.Seen∧(hea.fin u p c t r).1.Upper=u.Upper∧(hea.fin u p c t r).2.1=r:=by
 unfold hea.fin
 cases hea.no u p <;> cases (IntKind.wrap IntKind.i64 (u.Count - 1) != 0) <;> exact ⟨rfl,rfl,rfl,rfl⟩
theorem mid_par (u:Scanner) (p:AdvPDU) (c t:Int): (hea.mid u p c t).1.Params=u.Params∧(hea.mid u p c t).1.Seen.length≤u.Seen.length+1∧(hea.mid u p c t).1.Upper=u.Upper∧(hea.mid u p c t).2.1.length≤1:=by
 unfold hea.mid
 cases hea.out u p
 ·rw [cond_false]
  cases u.Params.Unique
  ·have a:=fin_par u p c t [hea.rep u p t]
   rw [cond_false,a.1,a.2.1,a.2.2.1,a.2.2.2]
   exact ⟨rfl,by omega,rfl,by simp⟩
  ·rw [cond_true]
   cases List.any (clA u.Seen) (rep.hit u p)
   ·rw [cond_false]
    cases decide ((64:Int)≤(↑(List.length (clA u.Seen)): Int))
    ·have a:=fin_par {u with Seen:=clA u.Seen ++ [scEntry u p]} p c t [hea.rep u p t]
     rw [cond_false,a.1,a.2.1,a.2.2.1,a.2.2.2]
     exact ⟨rfl,by show (u.Seen ++ [scEntry u p]).length≤_;simp,rfl,by simp⟩
    ·have a:=fin_par {u with Seen:=List.drop (Int.toNat 1) (clA u.Seen)++ [scEntry u p]} p c t [hea.rep u p t]
     rw [cond_true,a.1,a.2.1,a.2.2.1,a.2.2.2]
     refine ⟨rfl, ?_,rfl,by simp⟩
     show (List.drop (Int.toNat 1) u.Seen ++ [scEntry u p]).length≤_
     simp only [List.length_append,List.length_drop,List.length_cons,List.length_nil]
     omega
   ·have a:=fin_par u p c t []
    rw [cond_true,a.1,a.2.1,a.2.2.1,a.2.2.2]
    exact ⟨rfl,by omega,rfl,by simp⟩
 ·rw [cond_true]
  exact ⟨rfl,by show u.Seen.length≤_;omega,rfl,by simp⟩
theorem hear_all (s:Scanner) (p:AdvPDU) (c t:Int): (scHear s p c t).1.Params=s.Params∧(scHear s p c t).1.Seen.length≤s.Seen.length+1∧((scHear s p c t).1.Upper=s.Upper∨(scHear s p c t).1.Upper≤9223372036854775807)∧(scHear s p c t).2.1.length≤1:=by
 unfold scHear
 cases hea.deaf s p c
 ·rw [cond_false]
  cases (p.Kind==4)
  ·have a:=mid_par s p c t
   rw [cond_false]
   exact ⟨a.1,a.2.1, .inl a.2.2.1,a.2.2.2⟩
  ·rw [cond_true]
   cases (IntKind.wrap IntKind.i64 (s.Wins+1)== 2)
   ·have a:=mid_par (hea.one s) p c t
    rw [cond_false]
    exact ⟨a.1,a.2.1, .inl a.2.2.1,a.2.2.2⟩
   ·have a:=mid_par (hea.two s) p c t
    rw [cond_true]
    refine ⟨a.1,a.2.1, .inr ?_,a.2.2.2⟩
    rw [a.2.2.1]
    show maxI (IntKind.wrap IntKind.i64 (Int.tdiv s.Upper 2)) 1≤_
    have:=wi64s (Int.tdiv s.Upper 2)
    unfold maxI
    split <;> omega
 ·rw [cond_true]
  exact ⟨rfl,by show s.Seen.length≤_;omega, .inl rfl,by simp⟩
theorem hear_par (s:Scanner) (p:AdvPDU) (c t:Int): (scHear s p c t).1.Params=s.Params:=(hear_all s p c t).1
theorem hear_one (s:Scanner) (p:AdvPDU) (c t:Int): (scHear s p c t).2.1.length≤1:=(hear_all s p c t).2.2.2
theorem miss_all (s:Scanner): (scMiss s).Params=s.Params∧(scMiss s).Seen=s.Seen∧((scMiss s).Upper=s.Upper∨(scMiss s).Upper≤9223372036854775807):= by
 unfold scMiss
 rw [scOwn_eq]
 cases (bif !s.On then true else s.Wait.Kind==0 && s.Wait.Bits==0)
 ·rw [cond_false]
  cases (IntKind.wrap IntKind.i64 (s.Fails+1)== 2)
  ·exact ⟨rfl,rfl, .inl rfl⟩
  ·rw [cond_true]
   refine ⟨rfl,rfl, .inr ?_⟩
   show minI (IntKind.wrap IntKind.i64 (2*s.Upper)) 256≤_
   unfold minI
   split <;> omega
 ·exact ⟨rfl,rfl, .inl rfl⟩
theorem miss_par (s:Scanner): (scMiss s).Params=s.Params:=(miss_all s).1
theorem miss_seen (s:Scanner): (scMiss s).Seen=s.Seen:=(miss_all s).2.1
theorem le01:(0:Int)≤1:=by decide
theorem start_all (p:ScanParams) (seed t:Int): (scStart p seed t).1.Params.Accept.length≤p.Accept.length∧(scStart p seed t).1.Params.Identities.length≤p.Identities.length∧(scStart p seed t).1.Seen=[]∧(scStart p seed t).1.Upper≤1:=by
 unfold scStart
 simp only [scOwn_eq]
 have hc : ∀(b:Bool) (X Y:Scanner×Int),(X.1.Params.Accept.length≤p.Accept.length∧X.1.Params.Identities.length≤p.Identities.length∧X.1.Seen=[]∧X.1.Upper≤1)→(Y.1.Params.Accept.length≤p.Accept.length∧Y.1.Params.Identities.length≤p.Identities.length∧Y.1.Seen=[]∧Y.1.Upper≤1)→((cond b X Y).1.Params.Accept.length≤p.Accept.length∧(cond b X Y).1.Params.Identities.length≤p.Identities.length∧(cond b X Y).1.Seen=[]∧(cond b X Y).1.Upper≤1):= by
  intro b X Y hX hY
  cases b
  ·exact hY
  ·exact hX
 repeat' (first | exact ⟨Nat.zero_le _,Nat.zero_le _,rfl,le01⟩| exact ⟨Nat.le_refl _,Nat.le_refl _,rfl,Int.le_refl _⟩| apply hc)
theorem own22_eq (p:ScanParams): own22 p=p:=by unfold own22;simp
theorem copied22_eq (p:AdvPDU): copied22 p=p:=by unfold copied22;simp
theorem rrep_all (s:Scanner) (p:AdvPDU) (t:Int): (r22report s p t).1.Params=s.Params∧(r22report s p t).1.Seen.length≤s.Seen.length+1∧(r22report s p t).1.Upper=s.Upper∧(r22report s p t).2.length≤1:=by
 have hc : ∀(b:Bool) (X Y:Scanner×List Report),(X.1.Params=s.Params∧X.1.Seen.length≤s.Seen.length+1∧X.1.Upper=s.Upper∧X.2.length≤1)→(Y.1.Params=s.Params∧Y.1.Seen.length≤s.Seen.length+1∧Y.1.Upper=s.Upper∧Y.2.length≤1)→((cond b X Y).1.Params=s.Params∧(cond b X Y).1.Seen.length≤s.Seen.length+1∧(cond b X Y).1.Upper=s.Upper∧(cond b X Y).2.length≤1):= by
  intro b X Y hX hY
  cases b
  ·exact hY
  ·exact hX
 unfold r22report
 repeat' (first | exact ⟨rfl,Nat.le_succ _,rfl,Nat.zero_le _⟩| exact ⟨rfl,Nat.le_succ _,rfl,Nat.le_refl _⟩| exact ⟨rfl,(by show ([]++ s.Seen ++ [_]: List Address).length≤_;simp),rfl,Nat.le_refl _⟩| exact ⟨rfl,(by show (List.drop _ ([]++ s.Seen)++ [_]: List Address).length≤_;simp only [List.length_append,List.length_drop,List.length_cons,List.length_nil,List.nil_append];omega),rfl,Nat.le_refl _⟩| apply hc)
theorem succ_up (s:Scanner): (r22Succ s).Upper=s.Upper∨(r22Succ s).Upper≤9223372036854775807:=by
 unfold r22Succ
 cases (IntKind.wrap IntKind.i64 (s.Wins+(1:Int))== (2:Int))
 ·rw [cond_false];unfold r22Back;exact .inl rfl
 ·rw [cond_true];unfold r22Back
  refine .inr ?_
  show maxI 1 (IntKind.wrap IntKind.i64 (Int.tdiv s.Upper 2))≤_
  have:=wi64s (Int.tdiv s.Upper 2)
  unfold maxI
  split <;> omega
theorem rhear_all (s:Scanner) (p:AdvPDU) (c t:Int): (r22Hear s p c t).1.Params=s.Params∧(r22Hear s p c t).1.Seen.length≤s.Seen.length+1∧((r22Hear s p c t).1.Upper=s.Upper∨(r22Hear s p c t).1.Upper≤9223372036854775807):= by
 have hc : ∀(b:Bool) (X Y:Scanner×List Report×List Send),(X.1.Params=s.Params∧X.1.Seen.length≤s.Seen.length+1∧(X.1.Upper=s.Upper∨X.1.Upper≤9223372036854775807))→(Y.1.Params=s.Params∧Y.1.Seen.length≤s.Seen.length+1∧(Y.1.Upper=s.Upper∨Y.1.Upper≤9223372036854775807))→((cond b X Y).1.Params=s.Params∧(cond b X Y).1.Seen.length≤s.Seen.length+1∧((cond b X Y).1.Upper=s.Upper∨(cond b X Y).1.Upper≤9223372036854775807)):= by
  intro b X Y hX hY
  cases b
  ·exact hY
  ·exact hX
 have k1:s.Params=s.Params∧s.Seen.length≤s.Seen.length+1∧(s.Upper=s.Upper∨s.Upper≤9223372036854775807):= ⟨rfl,by omega, .inl rfl⟩
 have k2:(r22Succ s).Params=s.Params∧(r22Succ s).Seen.length≤s.Seen.length+1∧((r22Succ s).Upper=s.Upper∨(r22Succ s).Upper≤9223372036854775807):= ⟨succ_par s,by rw [succ_seen];omega,succ_up s⟩
 have k3 : ∀t,(r22report s p t).1.Params=s.Params∧(r22report s p t).1.Seen.length≤s.Seen.length+1∧((r22report s p t).1.Upper=s.Upper∨(r22report s p t).1.Upper≤9223372036854775807):= fun t=>⟨(rrep_all s p t).1,(rrep_all s p t).2.1, .inl (rrep_all s p t).2.2.1⟩
 have k4 : ∀t,(r22report (r22Succ s) p t).1.Params=s.Params∧(r22report (r22Succ s) p t).1.Seen.length≤s.Seen.length+1∧((r22report (r22Succ s) p t).1.Upper=s.Upper∨(r22report (r22Succ s) p t).1.Upper≤9223372036854775807):= fun t=>⟨(rrep_all _ p t).1.trans (succ_par s),by have:=(rrep_all (r22Succ s) p t).2.1;rw [succ_seen] at this;exact this,by rw [(rrep_all _ p t).2.2.1];exact succ_up s⟩
 unfold r22Hear
 repeat' (first | exact k1 | exact k2 | exact k3 _ | exact k4 _ | apply hc)
theorem rmiss_all (s:Scanner): (r22Miss s).Params=s.Params∧(r22Miss s).Seen=s.Seen∧((r22Miss s).Upper=s.Upper∨(r22Miss s).Upper≤9223372036854775807):= by
 unfold r22Miss
 cases (bif !s.On then true else s.Wait.Kind==0 && s.Wait.Bits==0)
 ·rw [cond_false]
  cases (IntKind.wrap IntKind.i64 (s.Fails+1)== 2)
  ·rw [cond_false];unfold r22Back;exact ⟨rfl,rfl, .inl rfl⟩
  ·rw [cond_true];unfold r22Back
   refine ⟨rfl,rfl, .inr ?_⟩
   show minI 256 (IntKind.wrap IntKind.i64 (2*s.Upper))≤_
   unfold minI
   split <;> omega
 ·exact ⟨rfl,rfl, .inl rfl⟩
theorem stop_eq (s:Scanner): scStop s=r22Stop s:=by
 unfold scStop r22Stop
 rw [scOwn_eq]
theorem rstop_all (s:Scanner): (r22Stop s).Params=s.Params∧(r22Stop s).Seen=s.Seen∧(r22Stop s).Upper=s.Upper:=by
 unfold r22Stop
 exact ⟨rfl,rfl,rfl⟩
theorem rstart_all (p:ScanParams) (seed t:Int): (r22Start p seed t).1.Params.Accept.length≤p.Accept.length∧(r22Start p seed t).1.Params.Identities.length≤p.Identities.length∧(r22Start p seed t).1.Seen=[]∧(r22Start p seed t).1.Upper≤1:=by
 unfold r22Start
 have hc : ∀(b:Bool) (X Y:Scanner×Int),(X.1.Params.Accept.length≤p.Accept.length∧X.1.Params.Identities.length≤p.Identities.length∧X.1.Seen=[]∧X.1.Upper≤1)→(Y.1.Params.Accept.length≤p.Accept.length∧Y.1.Params.Identities.length≤p.Identities.length∧Y.1.Seen=[]∧Y.1.Upper≤1)→((cond b X Y).1.Params.Accept.length≤p.Accept.length∧(cond b X Y).1.Params.Identities.length≤p.Identities.length∧(cond b X Y).1.Seen=[]∧(cond b X Y).1.Upper≤1):= by
  intro b X Y hX hY
  cases b
  ·exact hY
  ·exact hX
 repeat' (first | exact ⟨Nat.zero_le _,Nat.zero_le _,rfl,le01⟩| exact ⟨Nat.le_refl _,Nat.le_refl _,rfl,Int.le_refl _⟩| apply hc)
theorem hear_seenI (s:Scanner) (p:AdvPDU) (c t n:Int) (h:(s.Seen.length:Int)+ 1≤n): ((scHear s p c t).1.Seen.length:Int)≤n:=by have:=(hear_all s p c t).2.1;omega
theorem hear_up (s:Scanner) (p:AdvPDU) (c t:Int) (h:s.Upper≤9223372036854775807): (scHear s p c t).1.Upper≤9223372036854775807:=by have:=(hear_all s p c t).2.2.1;omega
theorem miss_up (s:Scanner) (h:s.Upper≤9223372036854775807): (scMiss s).Upper≤9223372036854775807:=by have:=(miss_all s).2.2;omega
theorem rhear_par (s:Scanner) (p:AdvPDU) (c t:Int): (r22Hear s p c t).1.Params=s.Params:=(rhear_all s p c t).1
theorem rhear_seenI (s:Scanner) (p:AdvPDU) (c t n:Int) (h:(s.Seen.length:Int)+ 1≤n): ((r22Hear s p c t).1.Seen.length:Int)≤n:=by have:=(rhear_all s p c t).2.1;omega
theorem rhear_up (s:Scanner) (p:AdvPDU) (c t:Int) (h:s.Upper≤9223372036854775807): (r22Hear s p c t).1.Upper≤9223372036854775807:=by have:=(rhear_all s p c t).2.2;omega
theorem rmiss_par (s:Scanner): (r22Miss s).Params=s.Params:=(rmiss_all s).1
theorem rmiss_seen (s:Scanner): (r22Miss s).Seen=s.Seen:=(rmiss_all s).2.1
theorem rmiss_up (s:Scanner) (h:s.Upper≤9223372036854775807): (r22Miss s).Upper≤9223372036854775807:=by have:=(rmiss_all s).2.2;omega
def scannerPlays.res (r:Bool): AV El:=.v (.bool (r))
def scannerPlays.news (r:Bool): List (AObj El):= []
def scannerPlays.L (e v:Bool): Prop:=scannerPlays.res e=scannerPlays.res v∧scannerPlays.news e=scannerPlays.news v
def scannerPlays.go (p:ScanParams) (p1:Law22At) (ops:List Law22Op): Nat→Int→Int→Scanner→Scanner→Bool
 | 0,_,_,_,_=>false
 | n0+1,i,now,a,b=>cond (decide (i < (↑(List.length ops): Int))) (cond ((List.getD ops (Int.toNat i) Law22Op.zero).Do==(0:Int)) (cond (bif !r22SameReports (scHear a (copied22 (List.getD ops (Int.toNat i) Law22Op.zero).PDU) (List.getD ops (Int.toNat i) Law22Op.zero).Channel (IntKind.wrap IntKind.i64 (now+maxI (0:Int) (minI (List.getD ops (Int.toNat i) Law22Op.zero).Wait (1073741824:Int))))).snd.fst (r22Hear b (List.getD ops (Int.toNat i) Law22Op.zero).PDU (List.getD ops (Int.toNat i) Law22Op.zero).Channel (IntKind.wrap IntKind.i64 (now+maxI (0:Int) (minI (List.getD ops (Int.toNat i) Law22Op.zero).Wait (1073741824:Int))))).snd.fst then true else !r21SameSends (scHear a (copied22 (List.getD ops (Int.toNat i) Law22Op.zero).PDU) (List.getD ops (Int.toNat i) Law22Op.zero).Channel (IntKind.wrap IntKind.i64 (now+maxI (0:Int) (minI (List.getD ops (Int.toNat i) Law22Op.zero).Wait (1073741824:Int))))).snd.snd (r22Hear b (List.getD ops (Int.toNat i) Law22Op.zero).PDU (List.getD ops (Int.toNat i) Law22Op.zero).Channel (IntKind.wrap IntKind.i64 (now+maxI (0:Int) (minI (List.getD ops (Int.toNat i) Law22Op.zero).Wait (1073741824:Int))))).snd.snd) (false) (cond (!r22Same (scHear a (copied22 (List.getD ops (Int.toNat i) Law22Op.zero).PDU) (List.getD ops (Int.toNat i) Law22Op.zero).Channel (IntKind.wrap IntKind.i64 (now+maxI (0:Int) (minI (List.getD ops (Int.toNat i) Law22Op.zero).Wait (1073741824:Int))))).fst (r22Hear b (List.getD ops (Int.toNat i) Law22Op.zero).PDU (List.getD ops (Int.toNat i) Law22Op.zero).Channel (IntKind.wrap IntKind.i64 (now+maxI (0:Int) (minI (List.getD ops (Int.toNat i) Law22Op.zero).Wait (1073741824:Int))))).fst) (false) (scannerPlays.go p p1 ops n0 (IntKind.wrap IntKind.i64 (i+(1:Int))) (IntKind.wrap IntKind.i64 (now+maxI (0:Int) (minI (List.getD ops (Int.toNat i) Law22Op.zero).Wait (1073741824:Int)))) (((scHear a (copied22 (List.getD ops (Int.toNat i) Law22Op.zero).PDU) (List.getD ops (Int.toNat i) Law22Op.zero).Channel (IntKind.wrap IntKind.i64 (now+maxI (0:Int) (minI (List.getD ops (Int.toNat i) Law22Op.zero).Wait (1073741824:Int))))).fst)) (((r22Hear b (List.getD ops (Int.toNat i) Law22Op.zero).PDU (List.getD ops (Int.toNat i) Law22Op.zero).Channel (IntKind.wrap IntKind.i64 (now+maxI (0:Int) (minI (List.getD ops (Int.toNat i) Law22Op.zero).Wait (1073741824:Int))))).fst))))) (cond ((List.getD ops (Int.toNat i) Law22Op.zero).Do==(1:Int)) (cond (!r22Same (scMiss a) (r22Miss b)) (false) (scannerPlays.go p p1 ops n0 (IntKind.wrap IntKind.i64 (i+(1:Int))) (IntKind.wrap IntKind.i64 (now+maxI (0:Int) (minI (List.getD ops (Int.toNat i) Law22Op.zero).Wait (1073741824:Int)))) (((scMiss a))) (((r22Miss b))))) (cond ((List.getD ops (Int.toNat i) Law22Op.zero).Do==(2:Int)) (cond (!r22Same (scStop a) (r22Stop b)) (false) (scannerPlays.go p p1 ops n0 (IntKind.wrap IntKind.i64 (i+(1:Int))) (IntKind.wrap IntKind.i64 (now+maxI (0:Int) (minI (List.getD ops (Int.toNat i) Law22Op.zero).Wait (1073741824:Int)))) (((scStop a))) (((r22Stop b))))) (cond (!r22Same a b) (false) (scannerPlays.go p p1 ops n0 (IntKind.wrap IntKind.i64 (i+(1:Int))) (IntKind.wrap IntKind.i64 (now+maxI (0:Int) (minI (List.getD ops (Int.toNat i) Law22Op.zero).Wait (1073741824:Int)))) ((a)) ((b))))))) (true)
def scannerPlays.hd (p:ScanParams) (p1:Law22At) (ops:List Law22Op) (i:Int) (now:Int) (a:Scanner) (b:Scanner): St El:={lo:=0,slots:=[(12, .v (.int .i64 (i))),(11, .v (.int .i64 (now))),(2, .sl 50 (ops:List (El 50)) false),(7, .ref 0 0),(9, .ref 1 0)],n:=131,objs:=[.cells (Scanner.cells a), .cells (Scanner.cells b)]}
def scannerPlays.st (p:ScanParams) (p1:Law22At) (ops:List Law22Op) (i:Int) (now:Int) (a:Scanner) (b:Scanner) (J:St El→Prop) (v:Bool): Prop:=(List.length ops≤(9223372036854775807:Nat))→(cond (decide (i < (↑(List.length ops): Int))) (Ob ((0:Int)≤i∧i < (↑(List.length ops): Int))∧(cond ((List.getD ops (Int.toNat i) Law22Op.zero).Do==(0:Int)) (Ob (List.length (List.getD ops (Int.toNat i) Law22Op.zero).PDU.Data≤(140737488355328:Nat))∧(Ob (List.length a.Params.Accept≤(4611686018427:Nat)∧List.length a.Params.Identities≤(4611686018427:Nat)∧List.length a.Seen≤(4611686018427:Nat)∧a.Upper≤(9223372036854775807:Int)∧List.length (copied22 (List.getD ops (Int.toNat i) Law22Op.zero).PDU).Data≤(140737488355328:Nat))∧(Ob (List.length b.Params.Accept≤(4611686018427:Nat)∧List.length b.Params.Identities≤(4611686018427:Nat)∧List.length b.Seen≤(4611686018427:Nat)∧b.Upper≤(9223372036854775807:Int)∧List.length (List.getD ops (Int.toNat i) Law22Op.zero).PDU.Data≤(140737488355328:Nat))∧(Ob (o3 (!!r22SameReports (scHear a (copied22 (List.getD ops (Int.toNat i) Law22Op.zero).PDU) (List.getD ops (Int.toNat i) Law22Op.zero).Channel (IntKind.wrap IntKind.i64 (now+maxI (0:Int) (minI (List.getD ops (Int.toNat i) Law22Op.zero).Wait (1073741824:Int))))).snd.fst (r22Hear b (List.getD ops (Int.toNat i) Law22Op.zero).PDU (List.getD ops (Int.toNat i) Law22Op.zero).Channel (IntKind.wrap IntKind.i64 (now+maxI (0:Int) (minI (List.getD ops (Int.toNat i) Law22Op.zero).Wait (1073741824:Int))))).snd.fst))∧(Ob (o3 (!!r22SameReports (scHear a (copied22 (List.getD ops (Int.toNat i) Law22Op.zero).PDU) (List.getD ops (Int.toNat i) Law22Op.zero).Channel (IntKind.wrap IntKind.i64 (now+maxI (0:Int) (minI (List.getD ops (Int.toNat i) Law22Op.zero).Wait (1073741824:Int))))).snd.fst (r22Hear b (List.getD ops (Int.toNat i) Law22Op.zero).PDU (List.getD ops (Int.toNat i) Law22Op.zero).Channel (IntKind.wrap IntKind.i64 (now+maxI (0:Int) (minI (List.getD ops (Int.toNat i) Law22Op.zero).Wait (1073741824:Int))))).snd.fst))∧(Ob (o3 (!!r22SameReports (scHear a (copied22 (List.getD ops (Int.toNat i) Law22Op.zero).PDU) (List.getD ops (Int.toNat i) Law22Op.zero).Channel (IntKind.wrap IntKind.i64 (now+maxI (0:Int) (minI (List.getD ops (Int.toNat i) Law22Op.zero).Wait (1073741824:Int))))).snd.fst (r22Hear b (List.getD ops (Int.toNat i) Law22Op.zero).PDU (List.getD ops (Int.toNat i) Law22Op.zero).Channel (IntKind.wrap IntKind.i64 (now+maxI (0:Int) (minI (List.getD ops (Int.toNat i) Law22Op.zero).Wait (1073741824:Int))))).snd.fst))∧(Ob (on (!r22SameReports (scHear a (copied22 (List.getD ops (Int.toNat i) Law22Op.zero).PDU) (List.getD ops (Int.toNat i) Law22Op.zero).Channel (IntKind.wrap IntKind.i64 (now+maxI (0:Int) (minI (List.getD ops (Int.toNat i) Law22Op.zero).Wait (1073741824:Int))))).snd.fst (r22Hear b (List.getD ops (Int.toNat i) Law22Op.zero).PDU (List.getD ops (Int.toNat i) Law22Op.zero).Channel (IntKind.wrap IntKind.i64 (now+maxI (0:Int) (minI (List.getD ops (Int.toNat i) Law22Op.zero).Wait (1073741824:Int))))).snd.fst))∧(cond (bif !r22SameReports (scHear a (copied22 (List.getD ops (Int.toNat i) Law22Op.zero).PDU) (List.getD ops (Int.toNat i) Law22Op.zero).Channel (IntKind.wrap IntKind.i64 (now+maxI (0:Int) (minI (List.getD ops (Int.toNat i) Law22Op.zero).Wait (1073741824:Int))))).snd.fst (r22Hear b (List.getD ops (Int.toNat i) Law22Op.zero).PDU (List.getD ops (Int.toNat i) Law22Op.zero).Channel (IntKind.wrap IntKind.i64 (now+maxI (0:Int) (minI (List.getD ops (Int.toNat i) Law22Op.zero).Wait (1073741824:Int))))).snd.fst then true else !r21SameSends (scHear a (copied22 (List.getD ops (Int.toNat i) Law22Op.zero).PDU) (List.getD ops (Int.toNat i) Law22Op.zero).Channel (IntKind.wrap IntKind.i64 (now+maxI (0:Int) (minI (List.getD ops (Int.toNat i) Law22Op.zero).Wait (1073741824:Int))))).snd.snd (r22Hear b (List.getD ops (Int.toNat i) Law22Op.zero).PDU (List.getD ops (Int.toNat i) Law22Op.zero).Channel (IntKind.wrap IntKind.i64 (now+maxI (0:Int) (minI (List.getD ops (Int.toNat i) Law22Op.zero).Wait (1073741824:Int))))).snd.snd) (scannerPlays.L (false) v) (cond (!r22Same (scHear a (copied22 (List.getD ops (Int.toNat i) Law22Op.zero).PDU) (List.getD ops (Int.toNat i) Law22Op.zero).Channel (IntKind.wrap IntKind.i64 (now+maxI (0:Int) (minI (List.getD ops (Int.toNat i) Law22Op.zero).Wait (1073741824:Int))))).fst (r22Hear b (List.getD ops (Int.toNat i) Law22Op.zero).PDU (List.getD ops (Int.toNat i) Law22Op.zero).Channel (IntKind.wrap IntKind.i64 (now+maxI (0:Int) (minI (List.getD ops (Int.toNat i) Law22Op.zero).Wait (1073741824:Int))))).fst) (scannerPlays.L (false) v) (J (scannerPlays.hd p p1 ops (IntKind.wrap IntKind.i64 (i+(1:Int))) (IntKind.wrap IntKind.i64 (now+maxI (0:Int) (minI (List.getD ops (Int.toNat i) Law22Op.zero).Wait (1073741824:Int)))) (((scHear a (copied22 (List.getD ops (Int.toNat i) Law22Op.zero).PDU) (List.getD ops (Int.toNat i) Law22Op.zero).Channel (IntKind.wrap IntKind.i64 (now+maxI (0:Int) (minI (List.getD ops (Int.toNat i) Law22Op.zero).Wait (1073741824:Int))))).fst)) (((r22Hear b (List.getD ops (Int.toNat i) Law22Op.zero).PDU (List.getD ops (Int.toNat i) Law22Op.zero).Channel (IntKind.wrap IntKind.i64 (now+maxI (0:Int) (minI (List.getD ops (Int.toNat i) Law22Op.zero).Wait (1073741824:Int))))).fst))))))))))))) (cond ((List.getD ops (Int.toNat i) Law22Op.zero).Do==(1:Int)) (Ob (List.length a.Params.Accept≤(4611686018427:Nat)∧List.length a.Params.Identities≤(4611686018427:Nat)∧List.length a.Seen≤(4611686018427:Nat)∧a.Upper≤(9223372036854775807:Int))∧(Ob (b.Upper≤(9223372036854775807:Int))∧(cond (!r22Same (scMiss a) (r22Miss b)) (scannerPlays.L (false) v) (J (scannerPlays.hd p p1 ops (IntKind.wrap IntKind.i64 (i+(1:Int))) (IntKind.wrap IntKind.i64 (now+maxI (0:Int) (minI (List.getD ops (Int.toNat i) Law22Op.zero).Wait (1073741824:Int)))) (((scMiss a))) (((r22Miss b)))))))) (cond ((List.getD ops (Int.toNat i) Law22Op.zero).Do==(2:Int)) (Ob (List.length a.Params.Accept≤(4611686018427:Nat)∧List.length a.Params.Identities≤(4611686018427:Nat)∧List.length a.Seen≤(4611686018427:Nat))∧(cond (!r22Same (scStop a) (r22Stop b)) (scannerPlays.L (false) v) (J (scannerPlays.hd p p1 ops (IntKind.wrap IntKind.i64 (i+(1:Int))) (IntKind.wrap IntKind.i64 (now+maxI (0:Int) (minI (List.getD ops (Int.toNat i) Law22Op.zero).Wait (1073741824:Int)))) (((scStop a))) (((r22Stop b))))))) (cond (!r22Same a b) (scannerPlays.L (false) v) (J (scannerPlays.hd p p1 ops (IntKind.wrap IntKind.i64 (i+(1:Int))) (IntKind.wrap IntKind.i64 (now+maxI (0:Int) (minI (List.getD ops (Int.toNat i) Law22Op.zero).Wait (1073741824:Int)))) ((a)) ((b))))))))) (scannerPlays.L (true) v))
theorem scannerPlays.st_ok (p:ScanParams) (p1:Law22At) (ops:List Law22Op) (i:Int) (now:Int) (a:Scanner) (b:Scanner) (J:St El→Prop) (v:Bool): evCode (mkCx Tryz.prog S tab_r22SameReports 0) (evFun (mkCx Tryz.prog S tab_r22SameReports 0) 3) (loopB Tryz.prog 3 [true,true,true,true,true,true,true,false,true,false]) (scannerPlays.hd p p1 ops i now a b) (roundK (C:=(mkCx Tryz.prog S tab_r22SameReports 0)) [12,11,2,7,9] [] J (loopK (mkCx Tryz.prog S tab_r22SameReports 0) 3 3 [true,true,true,true,true,true,true,false,true,false] (fun r' H'=>Gives r' H' (scannerPlays.res v) (scannerPlays.news v))))= scannerPlays.st p p1 ops i now a b J v:=by kernel_rfl
def scannerPlays.rng (p:ScanParams) (p1:Law22At) (ops:List Law22Op) (n0:Nat) (i:Int) (now:Int) (a:Scanner) (b:Scanner): Prop:=0≤i∧i≤ops.length∧(ops.length - i).toNat < n0∧ops.length≤100∧a.Params.Accept.length≤4611686018427∧a.Params.Identities.length≤4611686018427∧a.Seen.length≤i∧a.Upper≤9223372036854775807∧b.Params.Accept.length≤4611686018427∧b.Params.Identities.length≤4611686018427∧b.Seen.length≤i∧b.Upper≤9223372036854775807∧(∀k:Nat,(List.getD ops k Law22Op.zero).PDU.Data.length≤140737488355328)
theorem scannerPlays.lp (p:ScanParams) (p1:Law22At) (ops:List Law22Op) (hp:(∀k:Nat,(List.getD ops k Law22Op.zero).PDU.Data.length≤140737488355328)) (v:Bool) (n0:Nat) (i:Int) (now:Int) (a:Scanner) (b:Scanner) (hv:v=scannerPlays.go p p1 ops n0 i now a b) (h0:scannerPlays.rng p p1 ops n0 i now a b) (st:St El) (q1:okH [12,11,2,7,9] [] st=true) (q2:headS [12,11,2,7,9] [] st=scannerPlays.hd p p1 ops i now a b): evCode (mkCx Tryz.prog S tab_r22SameReports 0) (evFun (mkCx Tryz.prog S tab_r22SameReports 0) 3) (.loop (loopB Tryz.prog 3 [true,true,true,true,true,true,true,false,true,false])) st (loopK (mkCx Tryz.prog S tab_r22SameReports 0) 3 3 [true,true,true,true,true,true,true,false,true,false] (fun r' H'=>Gives r' H' (scannerPlays.res v) (scannerPlays.news v))):= by
 refine loop_ev (by kernel_rfl) (evFun_mono _ _) [12,11,2,7,9] [] (X:=Nat×Int×Int×Scanner×Scanner) (fun x=>scannerPlays.hd p p1 ops x.2.1 x.2.2.1 x.2.2.2.1 x.2.2.2.2) (fun x=>x.1) (fun x=>scannerPlays.rng p p1 ops x.1 x.2.1 x.2.2.1 x.2.2.2.1 x.2.2.2.2∧v=scannerPlays.go p p1 ops x.1 x.2.1 x.2.2.1 x.2.2.2.1 x.2.2.2.2) (n0,i,now,a,b) ⟨q1,q2⟩ ⟨h0,hv⟩ ?_
 clear h0 hv q1 q2
 rintro ⟨n0,i,now,a,b⟩ ⟨hr,hv⟩
 dsimp only at hr hv
 cases n0 with
 | zero=>exact absurd hr (by unfold scannerPlays.rng;omega)
 | succ n0 =>
 unfold scannerPlays.rng at hr
 unfold scannerPlays.go at hv
 refine (scannerPlays.st_ok p p1 ops i now a b _ _).mpr ?_
 unfold scannerPlays.st
 intro hlen
 revert hv;refine by_cond2 (fun hb hv=>?_) (fun hb hv=>?_)
 refine ⟨⟨?_⟩, ?_⟩;rotate_left
 revert hv;refine by_cond2 (fun hb hv=>?_) (fun hb hv=>?_)
 refine ⟨⟨?_⟩, ?_⟩;rotate_left
 refine ⟨⟨?_⟩, ?_⟩;rotate_left
 refine ⟨⟨?_⟩, ?_⟩;rotate_left
 iterate 3 refine ⟨⟨o3_ok _⟩, ?_⟩
 refine ⟨⟨on_ok _⟩, ?_⟩
 revert hv;refine by_cond2 (fun hb hv=>?_) (fun hb hv=>?_)
 subst hv;exact ⟨rfl,rfl⟩
 revert hv;refine by_cond2 (fun hb hv=>?_) (fun hb hv=>?_)
 subst hv;exact ⟨rfl,rfl⟩
 exact ⟨(n0,(IntKind.wrap IntKind.i64 (i+(1:Int))),(IntKind.wrap IntKind.i64 (now+maxI (0:Int) (minI (List.getD ops (Int.toNat i) Law22Op.zero).Wait (1073741824:Int)))),(((scHear a (copied22 (List.getD ops (Int.toNat i) Law22Op.zero).PDU) (List.getD ops (Int.toNat i) Law22Op.zero).Channel (IntKind.wrap IntKind.i64 (now+maxI (0:Int) (minI (List.getD ops (Int.toNat i) Law22Op.zero).Wait (1073741824:Int))))).fst)),(((r22Hear b (List.getD ops (Int.toNat i) Law22Op.zero).PDU (List.getD ops (Int.toNat i) Law22Op.zero).Channel (IntKind.wrap IntKind.i64 (now+maxI (0:Int) (minI (List.getD ops (Int.toNat i) Law22Op.zero).Wait (1073741824:Int))))).fst))),(by kernel_rfl),Nat.lt_succ_self n0,(by dsimp only;unfold scannerPlays.rng;(try clear hv);(try clear q1 q2);(try clear hk);((try simp only [decide_eq_true_eq,decide_eq_false_iff_not,Bool.not_eq_true,Bool.not_eq_false,Bool.and_eq_true,Bool.or_eq_true,Bool.not_not,cond_and,cond_or,List.length_append,List.length_cons,List.length_nil] at *);have h2:=wi64 (i+(1:Int)) (by omega) (by omega);obtain ⟨r1,r2,r3,r4,a1,a2,a3,a4,b1,b2,b3,b4,r9⟩:= hr;(try simp only [stop_eq]);first | exact ⟨by omega,by omega,by omega,by omega,by omega,by omega,by omega,by omega,by omega,by omega,by omega,by omega,r9⟩| (exact ⟨by omega,by omega,by omega,by omega,by rw [hear_par];omega,by rw [hear_par];omega,hear_seenI _ _ _ _ _ (by omega),hear_up _ _ _ _ a4,by rw [rhear_par];omega,by rw [rhear_par];omega,rhear_seenI _ _ _ _ _ (by omega),rhear_up _ _ _ _ b4,r9⟩)| (exact ⟨by omega,by omega,by omega,by omega,by rw [miss_par];omega,by rw [miss_par];omega,by rw [miss_seen];omega,miss_up _ a4,by rw [rmiss_par];omega,by rw [rmiss_par];omega,by rw [rmiss_seen];omega,rmiss_up _ b4,r9⟩)| (have q1:=rstop_all a;have q2:=rstop_all b;exact ⟨by omega,by omega,by omega,by omega,by rw [q1.1];exact a1,by rw [q1.1];exact a2,by rw [q1.2.1];omega,by rw [q1.2.2];exact a4,by rw [q2.1];exact b1,by rw [q2.1];exact b2,by rw [q2.2.1];omega,by rw [q2.2.2];exact b4,r9⟩))),hv⟩
 revert hv;refine by_cond2 (fun hb hv=>?_) (fun hb hv=>?_)
 refine ⟨⟨?_⟩, ?_⟩;rotate_left
 refine ⟨⟨?_⟩, ?_⟩;rotate_left
 revert hv;refine by_cond2 (fun hb hv=>?_) (fun hb hv=>?_)
 subst hv;exact ⟨rfl,rfl⟩
 exact ⟨(n0,(IntKind.wrap IntKind.i64 (i+(1:Int))),(IntKind.wrap IntKind.i64 (now+maxI (0:Int) (minI (List.getD ops (Int.toNat i) Law22Op.zero).Wait (1073741824:Int)))),(((scMiss a))),(((r22Miss b)))),(by kernel_rfl),Nat.lt_succ_self n0,(by dsimp only;unfold scannerPlays.rng;(try clear hv);(try clear q1 q2);(try clear hk);((try simp only [decide_eq_true_eq,decide_eq_false_iff_not,Bool.not_eq_true,Bool.not_eq_false,Bool.and_eq_true,Bool.or_eq_true,Bool.not_not,cond_and,cond_or,List.length_append,List.length_cons,List.length_nil] at *);have h2:=wi64 (i+(1:Int)) (by omega) (by omega);obtain ⟨r1,r2,r3,r4,a1,a2,a3,a4,b1,b2,b3,b4,r9⟩:= hr;(try simp only [stop_eq]);first | exact ⟨by omega,by omega,by omega,by omega,by omega,by omega,by omega,by omega,by omega,by omega,by omega,by omega,r9⟩| (exact ⟨by omega,by omega,by omega,by omega,by rw [hear_par];omega,by rw [hear_par];omega,hear_seenI _ _ _ _ _ (by omega),hear_up _ _ _ _ a4,by rw [rhear_par];omega,by rw [rhear_par];omega,rhear_seenI _ _ _ _ _ (by omega),rhear_up _ _ _ _ b4,r9⟩)| (exact ⟨by omega,by omega,by omega,by omega,by rw [miss_par];omega,by rw [miss_par];omega,by rw [miss_seen];omega,miss_up _ a4,by rw [rmiss_par];omega,by rw [rmiss_par];omega,by rw [rmiss_seen];omega,rmiss_up _ b4,r9⟩)| (have q1:=rstop_all a;have q2:=rstop_all b;exact ⟨by omega,by omega,by omega,by omega,by rw [q1.1];exact a1,by rw [q1.1];exact a2,by rw [q1.2.1];omega,by rw [q1.2.2];exact a4,by rw [q2.1];exact b1,by rw [q2.1];exact b2,by rw [q2.2.1];omega,by rw [q2.2.2];exact b4,r9⟩))),hv⟩
 revert hv;refine by_cond2 (fun hb hv=>?_) (fun hb hv=>?_)
 refine ⟨⟨?_⟩, ?_⟩;rotate_left
 revert hv;refine by_cond2 (fun hb hv=>?_) (fun hb hv=>?_)
 subst hv;exact ⟨rfl,rfl⟩
 exact ⟨(n0,(IntKind.wrap IntKind.i64 (i+(1:Int))),(IntKind.wrap IntKind.i64 (now+maxI (0:Int) (minI (List.getD ops (Int.toNat i) Law22Op.zero).Wait (1073741824:Int)))),(((scStop a))),(((r22Stop b)))),(by kernel_rfl),Nat.lt_succ_self n0,(by dsimp only;unfold scannerPlays.rng;(try clear hv);(try clear q1 q2);(try clear hk);((try simp only [decide_eq_true_eq,decide_eq_false_iff_not,Bool.not_eq_true,Bool.not_eq_false,Bool.and_eq_true,Bool.or_eq_true,Bool.not_not,cond_and,cond_or,List.length_append,List.length_cons,List.length_nil] at *);have h2:=wi64 (i+(1:Int)) (by omega) (by omega);obtain ⟨r1,r2,r3,r4,a1,a2,a3,a4,b1,b2,b3,b4,r9⟩:= hr;(try simp only [stop_eq]);first | exact ⟨by omega,by omega,by omega,by omega,by omega,by omega,by omega,by omega,by omega,by omega,by omega,by omega,r9⟩| (exact ⟨by omega,by omega,by omega,by omega,by rw [hear_par];omega,by rw [hear_par];omega,hear_seenI _ _ _ _ _ (by omega),hear_up _ _ _ _ a4,by rw [rhear_par];omega,by rw [rhear_par];omega,rhear_seenI _ _ _ _ _ (by omega),rhear_up _ _ _ _ b4,r9⟩)| (exact ⟨by omega,by omega,by omega,by omega,by rw [miss_par];omega,by rw [miss_par];omega,by rw [miss_seen];omega,miss_up _ a4,by rw [rmiss_par];omega,by rw [rmiss_par];omega,by rw [rmiss_seen];omega,rmiss_up _ b4,r9⟩)| (have q1:=rstop_all a;have q2:=rstop_all b;exact ⟨by omega,by omega,by omega,by omega,by rw [q1.1];exact a1,by rw [q1.1];exact a2,by rw [q1.2.1];omega,by rw [q1.2.2];exact a4,by rw [q2.1];exact b1,by rw [q2.1];exact b2,by rw [q2.2.1];omega,by rw [q2.2.2];exact b4,r9⟩))),hv⟩
 revert hv;refine by_cond2 (fun hb hv=>?_) (fun hb hv=>?_)
 subst hv;exact ⟨rfl,rfl⟩
 exact ⟨(n0,(IntKind.wrap IntKind.i64 (i+(1:Int))),(IntKind.wrap IntKind.i64 (now+maxI (0:Int) (minI (List.getD ops (Int.toNat i) Law22Op.zero).Wait (1073741824:Int)))),((a)),((b))),(by kernel_rfl),Nat.lt_succ_self n0,(by dsimp only;unfold scannerPlays.rng;(try clear hv);(try clear q1 q2);(try clear hk);((try simp only [decide_eq_true_eq,decide_eq_false_iff_not,Bool.not_eq_true,Bool.not_eq_false,Bool.and_eq_true,Bool.or_eq_true,Bool.not_not,cond_and,cond_or,List.length_append,List.length_cons,List.length_nil] at *);have h2:=wi64 (i+(1:Int)) (by omega) (by omega);obtain ⟨r1,r2,r3,r4,a1,a2,a3,a4,b1,b2,b3,b4,r9⟩:= hr;(try simp only [stop_eq]);first | exact ⟨by omega,by omega,by omega,by omega,by omega,by omega,by omega,by omega,by omega,by omega,by omega,by omega,r9⟩| (exact ⟨by omega,by omega,by omega,by omega,by rw [hear_par];omega,by rw [hear_par];omega,hear_seenI _ _ _ _ _ (by omega),hear_up _ _ _ _ a4,by rw [rhear_par];omega,by rw [rhear_par];omega,rhear_seenI _ _ _ _ _ (by omega),rhear_up _ _ _ _ b4,r9⟩)| (exact ⟨by omega,by omega,by omega,by omega,by rw [miss_par];omega,by rw [miss_par];omega,by rw [miss_seen];omega,miss_up _ a4,by rw [rmiss_par];omega,by rw [rmiss_par];omega,by rw [rmiss_seen];omega,rmiss_up _ b4,r9⟩)| (have q1:=rstop_all a;have q2:=rstop_all b;exact ⟨by omega,by omega,by omega,by omega,by rw [q1.1];exact a1,by rw [q1.1];exact a2,by rw [q1.2.1];omega,by rw [q1.2.2];exact a4,by rw [q2.1];exact b1,by rw [q2.1];exact b2,by rw [q2.2.1];omega,by rw [q2.2.2];exact b4,r9⟩))),hv⟩
 subst hv;exact ⟨rfl,rfl⟩
 all_goals ((try clear hv);(try clear q1 q2);(try clear hk);(first | omega | (exact ⟨by omega,by omega,by omega,by omega,hr.2.2.2.2.2.2.2.2.2.2.2.2 _⟩)| (rw [copied22_eq];have h5:=hr.2.2.2.2.2.2.2.2.2.2.2.2 (Int.toNat i);omega)| (exact hr.2.2.2.2.2.2.2.2.2.2.2.2 _)| (simp only [own22_eq];simp_all [small22];omega)| (simp_all [small22];omega)| ((try simp only [decide_eq_true_eq,decide_eq_false_iff_not,Bool.not_eq_true,Bool.not_eq_false,Bool.and_eq_true,Bool.or_eq_true,Bool.not_not,cond_and,cond_or,List.length_append,List.length_cons,List.length_nil] at *);(first | done | ((first | omega | (intros;(try simp only [Bool.not_not,cond_and,cond_or,Bool.and_eq_true,decide_eq_true_eq] at *);(exact band_nn rfl _ _))| (intros;(try simp only [Bool.not_not,cond_and,cond_or,Bool.and_eq_true,decide_eq_true_eq] at *);(exact (wu64s _).2.1))| (intros;(try simp only [Bool.not_not,cond_and,cond_or,Bool.and_eq_true,decide_eq_true_eq] at *);(simp only [Bool.or_eq_false_iff,Bool.and_eq_false_iff,decide_eq_false_iff_not,decide_eq_true_eq,bne_iff_ne,beq_iff_eq,bne_eq_false_iff_eq,beq_eq_false_iff_ne,ne_eq,true_and] at *;omega))| (intros;(try simp only [Bool.not_not,cond_and,cond_or,Bool.and_eq_true,decide_eq_true_eq] at *);(simp only [List.length_drop,List.length_take,List.length_append,List.length_cons,List.length_nil] at *;omega))| (intros;omega)| (intros;simp only [Bool.not_not,cond_and,cond_or,Bool.and_eq_true,decide_eq_true_eq] at *;omega)| (intros;simp_all [Bool.not_not];done)))))))
def scannerPlays (p:ScanParams) (p1:Law22At) (ops:List Law22Op): Bool:=cond (bif !small22 p then true else decide ((100:Int) < (↑(List.length ops): Int))) (true) (cond (bif (scStart (own22 p) p1.Seed p1.Start).snd != (0:Int) then true else (r22Start p p1.Seed p1.Start).snd != (0:Int)) ((scStart (own22 p) p1.Seed p1.Start).snd==(r22Start p p1.Seed p1.Start).snd) (scannerPlays.go p p1 ops (ops.length+1) ((0:Int)) ((r22Start p p1.Seed p1.Start).fst.Start) (((scStart (own22 p) p1.Seed p1.Start).fst)) (((r22Start p p1.Seed p1.Start).fst))))
def scannerPlays.dec (cs:List (AV El)): Option (ScanParams×Law22At×(List Law22Op)):= popA ScanParams.dec cs fun a0 c0=>popA Law22At.dec c0 fun a1 c1=>popS 50 c1 fun a2 c2=>popE c2 (a0,a1,a2)
def scannerPlays.enc (x:ScanParams×Law22At×(List Law22Op)): List (AV El):= [ScanParams.av x.1,Law22At.av x.2.1, .sl 50 (x.2.2:List (El 50)) false]
theorem scannerPlays.dec_ok : ∀cs x,scannerPlays.dec cs=some x→Imp (S:=S) cs (scannerPlays.enc x):= by
 intro cs x h
 unfold scannerPlays.dec at h
 obtain ⟨a0,c0,h0,k0⟩:= popA_some (S:=S) ScanParams.dec_ok h
 obtain ⟨a1,c1,h1,k1⟩:= popA_some (S:=S) Law22At.dec_ok h0
 obtain ⟨a2,c2,h2,k2⟩:= popS_some (S:=S) (t:=50) h1
 obtain ⟨rfl,rfl⟩:= popE_some (S:=S) h2
 exact (k0 _ (k1 _ (k2 _ (.refl _))))
def scannerPlays.nf (p:ScanParams) (p1:Law22At) (ops:List Law22Op) (v:Bool): Prop:=Ob (o3 (!!small22 p))∧(Ob (o3 (!!small22 p))∧(Ob (on (!small22 p))∧(cond (bif !small22 p then true else decide ((100:Int) < (↑(List.length ops): Int))) (scannerPlays.L (true) v) (Ob (List.length p.Accept≤(4611686018427:Nat)∧List.length p.Identities≤(4611686018427:Nat))∧(Ob (List.length (own22 p).Accept≤(4611686018427:Nat)∧List.length (own22 p).Identities≤(4611686018427:Nat))∧(Ob (o3 (!(scStart (own22 p) p1.Seed p1.Start).snd != (0:Int)))∧(Ob (on ((scStart (own22 p) p1.Seed p1.Start).snd != (0:Int)))∧(cond (bif (scStart (own22 p) p1.Seed p1.Start).snd != (0:Int) then true else (r22Start p p1.Seed p1.Start).snd != (0:Int)) (scannerPlays.L ((scStart (own22 p) p1.Seed p1.Start).snd==(r22Start p p1.Seed p1.Start).snd) v) (evCode (mkCx Tryz.prog S tab_r22SameReports 0) (evFun (mkCx Tryz.prog S tab_r22SameReports 0) 3) (.loop (loopB Tryz.prog 3 [true,true,true,true,true,true,true,false,true,false])) ({lo:=0,slots:=[(12, .v (.int .i64 ((0:Int)))),(11, .v (.int .i64 ((r22Start p p1.Seed p1.Start).fst.Start))),(59, .v (.int .i64 ((r22Start p p1.Seed p1.Start).fst.Start))),(58, .ref 3 10),(54, .v (.bool (false))),(54, .v (.bool (bif (scStart (own22 p) p1.Seed p1.Start).snd != (0:Int) then true else (r22Start p p1.Seed p1.Start).snd != (0:Int)))),(53, .gd (!(scStart (own22 p) p1.Seed p1.Start).snd != (0:Int)) (.v (.bool ((r22Start p p1.Seed p1.Start).snd != (0:Int))))),(52, .gd (!(scStart (own22 p) p1.Seed p1.Start).snd != (0:Int)) (.v (.int .i64 ((r22Start p p1.Seed p1.Start).snd)))),(51, .v (.bool ((scStart (own22 p) p1.Seed p1.Start).snd != (0:Int)))),(50, .v (.bool ((scStart (own22 p) p1.Seed p1.Start).snd != (0:Int)))),(49, .v (.int .i64 ((scStart (own22 p) p1.Seed p1.Start).snd))),(10, .v (.int .i64 ((r22Start p p1.Seed p1.Start).snd))),(9, .ref 3 0),(48, .v (.int .i64 ((r22Start p p1.Seed p1.Start).snd))),(47, .agg (Scanner.cells ((r22Start p p1.Seed p1.Start).fst))),(40, .tup [.agg (Scanner.cells ((r22Start p p1.Seed p1.Start).fst)), .v (.int .i64 ((r22Start p p1.Seed p1.Start).snd))]),(46, .tup [.agg (Scanner.cells ((r22Start p p1.Seed p1.Start).fst)), .v (.int .i64 ((r22Start p p1.Seed p1.Start).snd))]),(45, .v (.int .i64 (p1.Start))),(44, .ref 1 1),(43, .v (.int .u64 (p1.Seed))),(42, .ref 1 0),(41, .agg (ScanParams.cells p)),(8, .v (.int .i64 ((scStart (own22 p) p1.Seed p1.Start).snd))),(7, .ref 2 0),(39, .v (.int .i64 ((scStart (own22 p) p1.Seed p1.Start).snd))),(38, .agg (Scanner.cells ((scStart (own22 p) p1.Seed p1.Start).fst))),(30, .tup [.agg (Scanner.cells ((scStart (own22 p) p1.Seed p1.Start).fst)), .v (.int .i64 ((scStart (own22 p) p1.Seed p1.Start).snd))]),(37, .tup [.agg (Scanner.cells ((scStart (own22 p) p1.Seed p1.Start).fst)), .v (.int .i64 ((scStart (own22 p) p1.Seed p1.Start).snd))]),(36, .v (.int .i64 (p1.Start))),(35, .ref 1 1),(34, .v (.int .u64 (p1.Seed))),(33, .ref 1 0),(32, .agg (ScanParams.cells ((own22 p)))),(31, .agg (ScanParams.cells p)),(29, .v (.bool (false))),(29, .v (.bool (bif !small22 p then true else decide ((100:Int) < (↑(List.length ops): Int))))),(28, .gd (!!small22 p) (.v (.bool (decide ((100:Int) < (↑(List.length ops): Int)))))),(27, .gd (!!small22 p) (.v (.int .i64 ((↑(List.length ops): Int))))),(26, .gd (!!small22 p) (.sl 50 (ops:List (El 50)) false)),(25, .v (.bool (!small22 p))),(24, .v (.bool (!small22 p))),(23, .v (.bool (small22 p))),(22, .agg (ScanParams.cells p)),(21, .v (.bool (false))),(21, .v (.bool (false))),(20, .v (.bool (lives22))),(6, .v (.bool (false))),(4, .ref 1 0),(3, .ref 0 0),(0, .agg (ScanParams.cells p)),(1, .agg (Law22At.cells p1)),(2, .sl 50 (ops:List (El 50)) false)],n:=131,objs:=[.cells (ScanParams.cells p), .cells (Law22At.cells p1), .cells (Scanner.cells ((scStart (own22 p) p1.Seed p1.Start).fst)), .cells (Scanner.cells ((r22Start p p1.Seed p1.Start).fst))]}) (loopK (mkCx Tryz.prog S tab_r22SameReports 0) 3 3 [true,true,true,true,true,true,true,false,true,false] (fun r' H'=>Gives r' H' (scannerPlays.res v) (scannerPlays.news v))))))))))))
theorem scannerPlays.nf_ok (p:ScanParams) (p1:Law22At) (ops:List Law22Op) (v:Bool): evFun (mkCx Tryz.prog S tab_r22SameReports 0) 4 3 [ScanParams.av p,Law22At.av p1, .sl 50 (ops:List (El 50)) false] [] (fun r' H'=>Gives r' H' (scannerPlays.res v) (scannerPlays.news v))= scannerPlays.nf p p1 ops v:=by kernel_rfl
theorem scannerPlays.key (p:ScanParams) (p1:Law22At) (ops:List Law22Op) (hp:(∀k:Nat,(List.getD ops k Law22Op.zero).PDU.Data.length≤140737488355328)) (v:Bool) (hv:v=scannerPlays p p1 ops): scannerPlays.nf p p1 ops v:=by
 unfold scannerPlays at hv
 unfold scannerPlays.nf
 iterate 2 refine ⟨⟨o3_ok _⟩, ?_⟩
 refine ⟨⟨on_ok _⟩, ?_⟩
 revert hv;refine by_cond2 (fun hb hv=>?_) (fun hb hv=>?_)
 subst hv;exact ⟨rfl,rfl⟩
 refine ⟨⟨?_⟩, ?_⟩;rotate_left
 refine ⟨⟨?_⟩, ?_⟩;rotate_left
 refine ⟨⟨o3_ok _⟩, ?_⟩
 refine ⟨⟨on_ok _⟩, ?_⟩
 revert hv;refine by_cond2 (fun hb hv=>?_) (fun hb hv=>?_)
 subst hv;exact ⟨rfl,rfl⟩
 exact scannerPlays.lp p p1 ops hp v _ _ _ _ _ hv (by unfold scannerPlays.rng;(try clear hv);(try clear q1 q2);(try clear hk);((simp only [cond_or,Bool.or_eq_false_iff,decide_eq_false_iff_not] at *);have h2:=start_all (own22 p) p1.Seed p1.Start;have h3:=rstart_all p p1.Seed p1.Start;(try simp only [own22_eq] at *);refine ⟨by omega,by omega,by omega, ?_, ?_, ?_, ?_, ?_, ?_, ?_, ?_, ?_,hp⟩;(all_goals (first | omega | (rw [h2.2.2.1];exact Int.le_refl _)| (rw [h3.2.2.1];exact Int.le_refl _)| (simp_all [small22];omega))))) _ (by kernel_rfl) (by kernel_rfl)
 all_goals ((try clear hv);(try clear q1 q2);(try clear hk);(first | omega | (exact ⟨by omega,by omega,by omega,by omega,hr.2.2.2.2.2.2.2.2.2.2.2.2 _⟩)| (rw [copied22_eq];have h5:=hr.2.2.2.2.2.2.2.2.2.2.2.2 (Int.toNat i);omega)| (exact hr.2.2.2.2.2.2.2.2.2.2.2.2 _)| (simp only [own22_eq];simp_all [small22];omega)| (simp_all [small22];omega)| ((try simp only [decide_eq_true_eq,decide_eq_false_iff_not,Bool.not_eq_true,Bool.not_eq_false,Bool.and_eq_true,Bool.or_eq_true,Bool.not_not,cond_and,cond_or,List.length_append,List.length_cons,List.length_nil] at *);(first | done | ((first | omega | (intros;(try simp only [Bool.not_not,cond_and,cond_or,Bool.and_eq_true,decide_eq_true_eq] at *);(exact band_nn rfl _ _))| (intros;(try simp only [Bool.not_not,cond_and,cond_or,Bool.and_eq_true,decide_eq_true_eq] at *);(exact (wu64s _).2.1))| (intros;(try simp only [Bool.not_not,cond_and,cond_or,Bool.and_eq_true,decide_eq_true_eq] at *);(simp only [Bool.or_eq_false_iff,Bool.and_eq_false_iff,decide_eq_false_iff_not,decide_eq_true_eq,bne_iff_ne,beq_iff_eq,bne_eq_false_iff_eq,beq_eq_false_iff_ne,ne_eq,true_and] at *;omega))| (intros;(try simp only [Bool.not_not,cond_and,cond_or,Bool.and_eq_true,decide_eq_true_eq] at *);(simp only [List.length_drop,List.length_take,List.length_append,List.length_cons,List.length_nil] at *;omega))| (intros;omega)| (intros;simp only [Bool.not_not,cond_and,cond_or,Bool.and_eq_true,decide_eq_true_eq] at *;omega)| (intros;simp_all [Bool.not_not];done)))))))
def scannerPlays.ct:Ct El:=ctOf scannerPlays.dec (fun x=>[(∀k:Nat,(List.getD x.2.2 k Law22Op.zero).PDU.Data.length≤140737488355328)]) (fun x=>scannerPlays.res (scannerPlays x.1 x.2.1 x.2.2)) (fun x=>scannerPlays.news (scannerPlays x.1 x.2.1 x.2.2))
theorem scannerPlays.ok:CtOk (mkCx Tryz.prog S [] 0) 3 scannerPlays.ct:=ct_mk (C:=(mkCx Tryz.prog S tab_r22SameReports 0)) (mkCx_ok sigOk mixed tab_r22SameReports_ok 0) scannerPlays.dec_ok (fun x=>rfl) 4 (fun x hp=>(scannerPlays.nf_ok x.1 x.2.1 x.2.2 _).mpr (scannerPlays.key x.1 x.2.1 x.2.2 (hp _ (List.mem_singleton.2 rfl)) _ rfl))
def tab_scannerPlays:List (FuncId×Ct El):= (3,scannerPlays.ct):: tab_r22SameReports
theorem tab_scannerPlays_ok:TabOk Tryz.prog S tab_scannerPlays:=⟨scannerPlays.ok,by kernel_rfl,tab_r22SameReports_ok⟩
end Go.Aw.W
