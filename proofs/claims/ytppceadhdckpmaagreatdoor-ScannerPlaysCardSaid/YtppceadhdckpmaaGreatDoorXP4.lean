/- The laws of chapter 22: starts, initiates. -/
import Derived.Test.YtppceadhdckpmaaGreatDoorXChk
import Derived.Test.YtppceadhdckpmaaGreatDoorXW34
set_option linter.unusedVariables false
set_option maxRecDepth 8000
namespace Go.Aw.W
open Go Go.Aw Go.Proofs
theorem moment22_eq (t:Int): scMoment t=r21Place t:=by
 unfold scMoment r21Place minI maxI
 split <;> split <;> (try split) <;> (try split) <;> omega
theorem start22_eq (p:ScanParams) (seed t:Int) (h:p.has): scStart p seed t=r22Start p seed t:=by
 have ha:HasA p.Own:=hasA (by first | exact h.2.2.2.2.2.2.1 | exact h.2.2.2.2.2.1 | exact h.2.2.2.2.1)
 unfold scStart r22Start
 rw [aCheck_eq _ ha,moment22_eq]
 rfl
theorem ids_go (a:List Identity) (hl:a.length≤4611686018427387904): ∀(n:Nat) (i:Int),0≤i→i≤a.length→(a.length - i).toNat < n→r21SameIds.go a a n i=true
 | 0,i,h0,h1,h2=>by omega
 | n+1,i,h0,h1,h2=>by
  unfold r21SameIds.go
  by_cases hi:i < a.length
  ·rw [decide_eq_true hi,cond_true,wi64 (i+(1:Int)) (by omega) (by omega),ids_go a hl n (i+1) (by omega) (by omega) (by omega)]
   simp
  ·rw [decide_eq_false hi,cond_false]
theorem ids_refl (a:List Identity) (hl:a.length≤4611686018427387904): r21SameIds a a=true:=by
 unfold r21SameIds
 rw [show ((a.length:Int) != (a.length:Int))= false by simp,cond_false]
 exact ids_go a hl _ _ (by omega) (by omega) (by omega)
theorem r22Same_refl (a:Scanner) (h0:a.Params.Accept.length≤4611686018427387904) (h1:a.Params.Identities.length≤4611686018427387904) (h2:a.Seen.length≤4611686018427387904): r22Same a a=true:=by
 unfold r22Same
 rw [same_refl _ h0,ids_refl _ h1,same_refl _ h2]
 simp
theorem r22Start_len (p:ScanParams) (seed t:Int) (hs:small22 p=true): (r22Start p seed t).1.Params.Accept.length≤100∧(r22Start p seed t).1.Params.Identities.length≤100∧(r22Start p seed t).1.Seen.length=0:=by
 have h:p.Accept.length≤100∧p.Identities.length≤100:=by
  unfold small22 at hs
  by_cases c:((p.Accept.length:Int)≤100)
  ·rw [decide_eq_true c,cond_true,decide_eq_true_eq] at hs
   omega
  ·rw [decide_eq_false c] at hs;cases hs
 unfold r22Start
 have hc : ∀(b:Bool) (X Y:Scanner×Int),(X.1.Params.Accept.length≤100∧X.1.Params.Identities.length≤100∧X.1.Seen.length=0)→(Y.1.Params.Accept.length≤100∧Y.1.Params.Identities.length≤100∧Y.1.Seen.length=0)→((cond b X Y).1.Params.Accept.length≤100∧(cond b X Y).1.Params.Identities.length≤100∧(cond b X Y).1.Seen.length=0):= by
  intro b X Y hX hY
  cases b
  ·exact hY
  ·exact hX
 repeat' (first | exact ⟨Nat.zero_le _,Nat.zero_le _,rfl⟩| exact ⟨h.1,h.2,rfl⟩| apply hc)
theorem same2_refl (b:List Int): r2Same b b=true:=by unfold r2Same strEq;simp
theorem r19Same_refl (p:AdvPDU): r19Same p p=true:=by
 unfold r19Same
 rw [same2_refl]
 simp
theorem sends_go (a:List Send) (hl:a.length≤4611686018427387904): ∀(n:Nat) (i:Int),0≤i→i≤a.length→(a.length - i).toNat < n→r21SameSends.go a a n i=true
 | 0,i,h0,h1,h2=>by omega
 | n+1,i,h0,h1,h2=>by
  unfold r21SameSends.go
  by_cases hi:i < a.length
  ·rw [decide_eq_true hi,cond_true,r19Same_refl,wi64 (i+(1:Int)) (by omega) (by omega),sends_go a hl n (i+1) (by omega) (by omega) (by omega)]
   simp
  ·rw [decide_eq_false hi,cond_false]
theorem sends_refl (a:List Send) (hl:a.length≤4611686018427387904): r21SameSends a a=true:=by
 unfold r21SameSends
 rw [show ((a.length:Int) != (a.length:Int))= false by simp,cond_false]
 exact sends_go a hl _ _ (by omega) (by omega) (by omega)
theorem zero_has (k:IntKind): IntKind.has k 0:=by cases k <;> simp [IntKind.has,IntKind.min,IntKind.max,IntKind.bits,IntKind.signed]
end Go.Aw.W
