/- The plain laws of addresses: checks (own work). -/
import Derived.Test.YtppceadhdckpmaaGreatDoorXOctA
import Derived.Test.YtppceadhdckpmaaGreatDoorXW11
set_option linter.unusedVariables false
namespace Go.Aw.W
open Go Go.Aw Go.Proofs
def HasA (a:Address): Prop:=0≤a.Bits∧a.Bits < 18446744073709551616
theorem mask22:aMask 22=4194303:=by decide
theorem mask46:aMask 46=70368744177663:=by decide
theorem bits_shr (n:Int) (h0:0≤n) {k:Int} {p:Int} (k0:0≤k) (k1:k≤64) (hp:(2:Int) ^ k.toNat=p): shrK IntKind.u64 n k=n / p:=by
 rw [shr_eq n k0 (by simp only [IntKind.bits];omega),hp]
theorem aCheck_eq (a:Address) (h:HasA a): aCheck a=r8Check a:=by
 obtain ⟨h0,h1⟩:= h
 unfold aCheck r8Check aPart
 rw [bits_shr a.Bits h0 (k:=48) (p:=281474976710656) (by decide) (by decide) (by decide),bits_shr a.Bits h0 (k:=46) (p:=70368744177664) (by decide) (by decide) (by decide),bits_shr a.Bits h0 (k:=24) (p:=16777216) (by decide) (by decide) (by decide)]
 rw [mask22,mask46,Int.tdiv_eq_ediv_of_nonneg h0,Int.tmod_eq_emod_of_nonneg h0,Int.tdiv_eq_ediv_of_nonneg (by omega),wu64 (a.Bits / 70368744177664) (by omega) (by omega),wu64 (a.Bits % 70368744177664 / 16777216) (by omega) (by omega)]
 rw [band_low (n:=22) rfl (by omega) (by rw [p64];omega) (by decide) (by decide),band_low (n:=46) rfl (by omega) (by rw [p64];omega) (by decide) (by decide)]
 rw [show (2:Int) ^ 22=4194304 by decide,show (2:Int) ^ 46=70368744177664 by decide]
 have e1:a.Bits / 16777216 % 4194304=a.Bits % 70368744177664 / 16777216:=by omega
 rw [e1]
 by_cases k0:a.Kind≤0
 ·have k1:a.Kind < 1:=by omega
  simp [k0,k1]
 ·by_cases k5:5≤a.Kind
  ·have k4:4 < a.Kind:=by omega
   simp [k5,k4]
  ·have k1 : ¬a.Kind < 1:=by omega
   have k4 : ¬4 < a.Kind:=by omega
   simp only [k0,k5,k1,k4,decide_false,cond_false]
   by_cases hb:(281474976710656:Int)≤a.Bits
   ·have h3:(a.Bits / 281474976710656 != 0)= true:=by simp only [bne_iff_ne,ne_eq];omega
    rw [h3,decide_eq_true hb];rfl
   ·have h3:(a.Bits / 281474976710656 != 0)= false:=by simp only [bne_eq_false_iff_eq];omega
    rw [h3,decide_eq_false hb,cond_false,cond_false]
    rcases (by omega:a.Kind=1∨a.Kind=2∨a.Kind=3∨a.Kind=4) with e | e | e | e
    ·simp [e]
    ·simp [e,r8prefix,prefixes,mask46]
    ·simp [e,r8prefix,prefixes,mask22]
    ·simp [e,r8prefix,prefixes,mask46]
end Go.Aw.W
