/- The law of the back-off of chapter 22. -/
import Derived.Test.YtppceadhdckpmaaDoorXP4
import Derived.Test.YtppceadhdckpmaaDoorXP5
import Derived.Test.YtppceadhdckpmaaDoorXW27
set_option linter.unusedVariables false
set_option maxRecDepth 8000
namespace Go.Aw.W
open Go Go.Aw Go.Proofs
attribute [local irreducible] pFind r9Find scEntry pDerive pCheck accHas
theorem cf22 {α:Type} {b:Bool} {x y z:α} (h:b=false) (h2:y=z): cond b x y=z:=by rw [h];exact h2
theorem start_keep (p:ScanParams) (seed t:Int) (hs:U64 seed) (h:(scStart p seed t).2=0): HI p (scStart p seed t).1∧(scStart p seed t).1.Seen=[]:= by
 have hc : ∀(b:Bool) (X Y:Scanner×Int),(X.2=0→HI p X.1∧X.1.Seen=[])→(Y.2=0→HI p Y.1∧Y.1.Seen=[])→(cond b X Y).2=0→HI p (cond b X Y).1∧(cond b X Y).1.Seen=[]:= by
  intro b X Y hX hY
  cases b
  ·exact hY
  ·exact hX
 revert h
 unfold scStart
 refine hc _ _ _ (fun h=>absurd h (show ¬((5:Int)= 0) by decide)) ?_
 refine hc _ _ _ (fun h=>absurd h (show ¬((11:Int)= 0) by decide)) ?_
 refine hc _ _ _ (fun h=>absurd h (show ¬((5:Int)= 0) by decide)) ?_
 refine hc _ _ _ (fun h=>absurd h (show ¬((4:Int)= 0) by decide)) ?_
 by_cases ha:aCheck p.Own=0
 ·rw [ha]
  intro _
  rw [scOwn_eq]
  exact ⟨⟨rfl,rfl, .inl rfl,⟨z1,Int.le_refl _⟩,⟨fun e=>absurd e (show ¬((1:Int)= 0) by decide),fun e=>absurd rfl e⟩,⟨⟨Int.le_refl _,z1⟩,Int.le_refl _,z1⟩,hs⟩,rfl⟩
 ·have hb:(aCheck p.Own != 0)= true:=by simp [ha]
  rw [hb]
  intro h
  exact absurd h ha
theorem ok_state {P:ScanParams} {s:Scanner} (h:HI P s): (bif bif bif bif bif decide (s.Upper < (1:Int)) then true else decide ((256:Int) < s.Upper) then true else Int.tmod (256:Int) s.Upper != (0:Int) then true else decide (s.Count < (0:Int)) then true else decide (s.Upper < s.Count) then true else !(s.Count==(0:Int))== !(s.Wait.Kind==(0:Int) && s.Wait.Bits==(0:Int)))= false:=by
 obtain ⟨h1,h2,h3,h4,h5,h6,h7⟩:= h
 have hr:=h3.range
 rw [decide_eq_false (show ¬s.Upper < 1 by omega),decide_eq_false (show ¬256 < s.Upper by omega),h3.divides,decide_eq_false (show ¬s.Count < 0 by omega),decide_eq_false (show ¬s.Upper < s.Count by omega)]
 show (!(s.Count==(0:Int))== !(s.Wait.Kind==(0:Int) && s.Wait.Bits==(0:Int)))= false
 by_cases hz:s.Count=0
 ·have hw:=h5.1 hz
  have:(s.Wait.Kind==(0:Int) && s.Wait.Bits==(0:Int))= false:=by
   rw [←Bool.not_eq_true,addr_zero];exact hw
  rw [this,hz];rfl
 ·have hw:s.Wait=⟨0,0⟩:= by
   apply Classical.byContradiction
   intro hn
   exact hz (h5.2 hn)
  rw [hw,show (s.Count==(0:Int))= false by rw [beq_eq_false_iff_ne];exact hz];rfl
theorem ok_send {p:ScanParams} {u:Scanner} {q:AdvPDU} {c t:Int} {r:HearR} (hu:u.Params=p) (h:Sends p u q c t r): (bif decide ((1:Int) < (↑(List.length r.snd.snd): Int)) then true else bif (↑(List.length r.snd.snd): Int)== (1:Int) then bif bif bif bif bif bif !p.Active then true else !(u.Wait.Kind==(0:Int) && u.Wait.Bits==(0:Int)) then true else !r19Scan q.Kind then true else (List.getD r.snd.snd (Int.toNat (0:Int)) Send.zero).PDU.Kind != (3:Int) then true else !((List.getD r.snd.snd (Int.toNat (0:Int)) Send.zero).PDU.Target.Kind==q.Sender.Kind && (List.getD r.snd.snd (Int.toNat (0:Int)) Send.zero).PDU.Target.Bits==q.Sender.Bits) then true else !((List.getD r.snd.snd (Int.toNat (0:Int)) Send.zero).PDU.Sender.Kind==p.Own.Kind && (List.getD r.snd.snd (Int.toNat (0:Int)) Send.zero).PDU.Sender.Bits==p.Own.Bits) then true else !(r.fst.Wait.Kind==q.Sender.Kind && r.fst.Wait.Bits==q.Sender.Bits) else false)= false:=by
 rcases h with h | ⟨a1,a2,a3,a4,a5⟩
 ·rw [h];rfl
 ·have a6:r19Scan q.Kind=true:=a3
  rw [a1,a2,a4,a5,a6]
  subst hu
  have s1:(q.Sender.Kind==q.Sender.Kind && q.Sender.Bits==q.Sender.Bits)= true:=by simp
  have s2:(u.Params.Own.Kind==u.Params.Own.Kind && u.Params.Own.Bits==u.Params.Own.Bits)= true:=by simp
  show (bif bif !(q.Sender.Kind==q.Sender.Kind && q.Sender.Bits==q.Sender.Bits) then true else !(u.Params.Own.Kind==u.Params.Own.Kind && u.Params.Own.Bits==u.Params.Own.Bits) then true else !(q.Sender.Kind==q.Sender.Kind && q.Sender.Bits==q.Sender.Bits))= false
  rw [s1,s2];rfl
theorem backoff_go (p:ScanParams) (seed:Int) (ops:List Law22Op) (hl:ops.length≤40): ∀(n:Nat) (i:Int) (u:Scanner),HI p u→0≤i→i≤ops.length→(ops.length - i).toNat < n→scannerBackoff.go p seed ops n i u=true
 | 0,i,u,h,h0,h1,h2=>by omega
 | n+1,i,u,h,h0,h1,h2=>by
  unfold scannerBackoff.go
  by_cases hi:i < ops.length
  ·rw [decide_eq_true hi,cond_true,wi64 (i+(1:Int)) (by omega) (by omega)]
   cases ((List.getD ops (Int.toNat i) Law22Op.zero).Do==(1:Int))
   ·rw [cond_false,copied22_eq]
    have hk:=hear_keep h (List.getD ops (Int.toNat i) Law22Op.zero).PDU (List.getD ops (Int.toNat i) Law22Op.zero).Channel i
    exact cf22 (ok_send h.1 hk.2.1) (cf22 (ok_state hk.1) (backoff_go p seed ops hl n _ _ hk.1 (by omega) (by omega) (by omega)))
   ·rw [cond_true]
    have hk:=miss_keep h
    exact cf22 (ok_state hk.1) (backoff_go p seed ops hl n _ _ hk.1 (by omega) (by omega) (by omega))
  ·rw [decide_eq_false hi,cond_false]
theorem ops_data {ops:List Law22Op} (h : ∀y∈ops,Law22Op.has y) (k:Nat): (List.getD ops k Law22Op.zero).PDU.Data.length≤140737488355328:=by
 rw [List.getD_eq_getElem?_getD]
 cases hk:ops[k]? with
 | none=>simp [Law22Op.zero,AdvPDU.zero]
 | some y =>
  have hm:y∈ops:=List.mem_of_getElem? hk
  have hy:=(h y hm).2.2.1.2.2.2.1.2
  show y.PDU.Data.length≤_
  omega
theorem scannerBackoff_pre (p:ScanParams) (seed:Int) (ops:List Law22Op) (b0:p.has) (b1:IntKind.has .u64 seed) (b2:(∀y∈ops,Law22Op.has y)∧ops.length*168≤140737488351232): ∀k:Nat,(List.getD ops k Law22Op.zero).PDU.Data.length≤140737488355328:=fun k=>ops_data b2.1 k
theorem scannerBackoff_true (p:ScanParams) (seed:Int) (ops:List Law22Op) (b0:p.has) (b1:IntKind.has .u64 seed) (b2:(∀y∈ops,Law22Op.has y)∧ops.length*168≤140737488351232): scannerBackoff p seed ops=true:=by
 unfold scannerBackoff
 cases hs:small22 p
 ·rfl
 by_cases h40:(40:Int) < (ops.length:Int)
 ·rw [decide_eq_true h40];rfl
 rw [decide_eq_false h40,own22_eq]
 by_cases hz:(scStart p seed 0).2=0
 ·have hk:=start_keep p seed 0 (has_u64 b1) hz
  rw [hz]
  exact backoff_go p seed ops (by omega) _ _ _ hk.1 (by omega) (by omega) (by omega)
 ·rw [show ((scStart p seed 0).2 != 0)= true by simp [hz]];rfl
end Go.Aw.W
