/- Every call leads to the same state and results (own work). -/
import Derived.Test.YtlnbhdcaebmffaaGreatXW25
set_option linter.unusedVariables false
namespace Go.Aw.W
open Go Go.Aw Go.Proofs
theorem ex28_eq:ex28=true:=by kernel_rfl
theorem plays_go {x:Law28Script} (hp:sRan x): ∀(n0:Nat) (i now ev:Int) (a b:Procs),((0≤i∧i≤x.Steps.length∧(x.Steps.length - i).toNat < n0)∧(0≤ev∧ev < 65536)∧x.Steps.length≤80∧b=a∧SOk a)→procedurePlays.go x n0 i now ev a b=true
 | 0,i,now,ev,a,b,hr=>by omega
 | n0+1,i,now,ev,a,b,hr=>by
  unfold procedurePlays.go
  cases hb:decide (i < (↑(List.length x.Steps): Int))
  ·rw [cond_false];exact ex28_eq
  ·obtain ⟨t,ht,hk⟩:= plays_step (now:=now) hp hr hb
   rw [cond_true,ht]
   simp only [decide_eq_true_eq] at hb
   have hq:sameProcs t t=true:=sameProcs_refl t (Nat.le_trans hk.wl (by decide)) (Nat.le_trans hk.pl (by decide))
   simp only [hq,Bool.not_true,cond_false]
   rw [wi64 (i+1) (by omega) (by omega)]
   exact plays_go hp n0 _ _ _ _ _ ⟨⟨by omega,by omega,by omega⟩,wu16r _,hr.2.2.1,rfl,hk⟩
theorem procedurePlays_pre (x:Law28Script) (b:Law28Script.has x): sRan x:=⟨b.2.2.2.2.1,b.2.2.1,b.2.2.2.1⟩
theorem procedurePlays_true (x:Law28Script) (b:Law28Script.has x): procedurePlays x=true:=by
 have hp:=procedurePlays_pre x b
 unfold procedurePlays
 cases hb:decide ((80:Int) < (↑(List.length x.Steps): Int))
 ·exact plays_go hp _ _ _ _ _ _ (plays_start hp hb)
 ·exact ex28_eq
end Go.Aw.W
