import Derived.Test.YtppceadhdckpmaaDoorXOctA
import Derived.Test.YtppceadhdckpmaaDoorXOp
import Derived.Test.YtppceadhdckpmaaDoorXW26
section
set_option linter.unusedVariables false
namespace Go.Aw.W
open Go Go.Aw Go.Proofs
def HasA (a:Address): Prop:=0≤a.Bits∧a.Bits < 18446744073709551616
theorem mask22:aMask 22=4194303:=by decide
theorem mask46:aMask 46=70368744177663:=by decide
theorem bits_shr (n:Int) (h0:0≤n) {k:Int} {p:Int} (k0:0≤k) (k1:k≤64) (hp:(2:Int) ^ k.toNat=p): shrK IntKind.u64 n k=n / p:=by
 rw [shr_eq n k0 (by simp only [IntKind.bits];omega),hp]
theorem aCheck_eq (a:Address) (h:HasA a): aCheck a=r8Check a:=by
 obtain ⟨h0,h1⟩:= h
 unfold aCheck r8Check aPart
 rw [bits_shr a.Bits h0 (k:=48) (p:=281474976710656) (by decide) (by decide) (by decide),bits_shr a.Bits h0 (k:=46) (p:=70368744177664) (by decide) (by decide) (by decide),bits_shr a.Bits h0 (k:=24) (p:=16777216) (by decide) (by decide) (by decide)]
 rw [mask22,mask46,Int.tdiv_eq_ediv_of_nonneg h0,Int.tmod_eq_emod_of_nonneg h0,Int.tdiv_eq_ediv_of_nonneg (by omega),wu64 (a.Bits / 70368744177664) (by omega) (by omega),wu64 (a.Bits % 70368744177664 / 16777216) (by omega) (by omega)]
 rw [band_low (n:=22) rfl (by omega) (by rw [p64];omega) (by decide) (by decide),band_low (n:=46) rfl (by omega) (by rw [p64];omega) (by decide) (by decide)]
 rw [show (2:Int) ^ 22=4194304 by decide,show (2:Int) ^ 46=70368744177664 by decide]
 have e1:a.Bits / 16777216 % 4194304=a.Bits % 70368744177664 / 16777216:=by omega
 rw [e1]
 by_cases k0:a.Kind≤0
 ·have k1:a.Kind < 1:=by omega
  simp [k0,k1]
 ·by_cases k5:5≤a.Kind
  ·have k4:4 < a.Kind:=by omega
   simp [k5,k4]
  ·have k1 : ¬a.Kind < 1:=by omega
   have k4 : ¬4 < a.Kind:=by omega
   simp only [k0,k5,k1,k4,decide_false,cond_false]
   by_cases hb:(281474976710656:Int)≤a.Bits
   ·have h3:(a.Bits / 281474976710656 != 0)= true:=by simp only [bne_iff_ne,ne_eq];omega
    rw [h3,decide_eq_true hb];rfl
   ·have h3:(a.Bits / 281474976710656 != 0)= false:=by simp only [bne_eq_false_iff_eq];omega
    rw [h3,decide_eq_false hb,cond_false,cond_false]
    rcases (by omega:a.Kind=1∨a.Kind=2∨a.Kind=3∨a.Kind=4) with e | e | e | e
    ·simp [e]
    ·simp [e,r8prefix,prefixes,mask46]
    ·simp [e,r8prefix,prefixes,mask22]
    ·simp [e,r8prefix,prefixes,mask46]
end Go.Aw.W
end
set_option linter.unusedVariables false
set_option maxRecDepth 8000
namespace Go.Aw.W
open Go Go.Aw Go.Proofs
def U64 (n:Int): Prop:=0≤n∧n < 18446744073709551616
theorem has_u64 {n:Int} (h:IntKind.has .u64 n): U64 n:=by
 have:0≤n∧n≤18446744073709551615:=by simpa [IntKind.has,IntKind.min,IntKind.max,IntKind.bits,IntKind.signed] using h
 unfold U64;omega
theorem hasA {a:Address} (h:a.has): HasA a:=has_u64 h.2
theorem ids_has {l:List Identity} (h : ∀y∈l,y.has): ∀x∈l,U64 x.IRK:=fun x hx=>has_u64 (h x hx).2
theorem same_go (a:List Address) (hl:a.length≤4611686018427387904): ∀(n:Nat) (i:Int),0≤i→i≤a.length→(a.length - i).toNat < n→r20Same.go a a n i=true
 | 0,i,h0,h1,h2=>by omega
 | n+1,i,h0,h1,h2=>by
  unfold r20Same.go
  by_cases hi:i < a.length
  ·rw [decide_eq_true hi,cond_true,wi64 (i+(1:Int)) (by omega) (by omega),same_go a hl n (i+1) (by omega) (by omega) (by omega)]
   simp
  ·rw [decide_eq_false hi,cond_false]
theorem same_refl (a:List Address) (hl:a.length≤4611686018427387904): r20Same a a=true:=by
 unfold r20Same
 rw [show ((a.length:Int) != (a.length:Int))= false by simp,cond_false]
 exact same_go a hl _ _ (by omega) (by omega) (by omega)
theorem moment22_eq (t:Int): scMoment t=r21Place t:=by
 unfold scMoment r21Place minI maxI
 split <;> split <;> (try split) <;> (try split) <;> omega
theorem start22_eq (p:ScanParams) (seed t:Int) (h:p.has): scStart p seed t=r22Start p seed t:=by
 have ha:HasA p.Own:=hasA (by first | exact h.2.2.2.2.2.2.1 | exact h.2.2.2.2.2.1 | exact h.2.2.2.2.1)
 unfold scStart r22Start
 rw [aCheck_eq _ ha,moment22_eq]
 rfl
theorem chan_tree (a b:Bool) (X Y:Int×Bool): cond a X (cond b X Y)= cond (bif a then true else b) X Y:=by
 cases a <;> cases b <;> rfl
theorem chan22_eq (s:Scanner) (t:Int): scChannel s t=r22Channel s t:=by
 unfold scChannel r22Channel
 rw [moment22_eq]
 exact chan_tree _ _ _ _
theorem ids_go (a:List Identity) (hl:a.length≤4611686018427387904): ∀(n:Nat) (i:Int),0≤i→i≤a.length→(a.length - i).toNat < n→r21SameIds.go a a n i=true
 | 0,i,h0,h1,h2=>by omega
 | n+1,i,h0,h1,h2=>by
  unfold r21SameIds.go
  by_cases hi:i < a.length
  ·rw [decide_eq_true hi,cond_true,wi64 (i+(1:Int)) (by omega) (by omega),ids_go a hl n (i+1) (by omega) (by omega) (by omega)]
   simp
  ·rw [decide_eq_false hi,cond_false]
theorem ids_refl (a:List Identity) (hl:a.length≤4611686018427387904): r21SameIds a a=true:=by
 unfold r21SameIds
 rw [show ((a.length:Int) != (a.length:Int))= false by simp,cond_false]
 exact ids_go a hl _ _ (by omega) (by omega) (by omega)
theorem r22Same_refl (a:Scanner) (h0:a.Params.Accept.length≤4611686018427387904) (h1:a.Params.Identities.length≤4611686018427387904) (h2:a.Seen.length≤4611686018427387904): r22Same a a=true:=by
 unfold r22Same
 rw [same_refl _ h0,ids_refl _ h1,same_refl _ h2]
 simp
theorem r22Start_len (p:ScanParams) (seed t:Int) (hs:small22 p=true): (r22Start p seed t).1.Params.Accept.length≤100∧(r22Start p seed t).1.Params.Identities.length≤100∧(r22Start p seed t).1.Seen.length=0:=by
 have h:p.Accept.length≤100∧p.Identities.length≤100:=by
  unfold small22 at hs
  by_cases c:((p.Accept.length:Int)≤100)
  ·rw [decide_eq_true c,cond_true,decide_eq_true_eq] at hs
   omega
  ·rw [decide_eq_false c] at hs;cases hs
 unfold r22Start
 have hc : ∀(b:Bool) (X Y:Scanner×Int),(X.1.Params.Accept.length≤100∧X.1.Params.Identities.length≤100∧X.1.Seen.length=0)→(Y.1.Params.Accept.length≤100∧Y.1.Params.Identities.length≤100∧Y.1.Seen.length=0)→((cond b X Y).1.Params.Accept.length≤100∧(cond b X Y).1.Params.Identities.length≤100∧(cond b X Y).1.Seen.length=0):= by
  intro b X Y hX hY
  cases b
  ·exact hY
  ·exact hX
 repeat' (first | exact ⟨Nat.zero_le _,Nat.zero_le _,rfl⟩| exact ⟨h.1,h.2,rfl⟩| apply hc)
theorem scannerStarts_true (p:ScanParams) (x:Law22At) (b0:p.has) (b1:x.has): scannerStarts p x=true:=by
 unfold scannerStarts
 cases hs:small22 p
 ·rfl
 ·have hl:=r22Start_len p x.Seed x.Start hs
  rw [own22_eq,start22_eq p _ _ b0,chan22_eq,r22Same_refl _ (by omega) (by omega) (by omega)]
  simp
end Go.Aw.W
