/- Checks and filters of both sides are alike. -/
import Derived.Test.YtppceadhdckpmaaGreatDoorXOp
import Derived.Test.YtppceadhdckpmaaGreatDoorXMix
import Derived.Test.YtppceadhdckpmaaGreatDoorXConn
import Derived.Test.YtppceadhdckpmaaGreatDoorXAddrA
import Derived.Test.YtppceadhdckpmaaGreatDoorXW34
set_option linter.unusedVariables false
set_option maxRecDepth 4000
namespace Go.Aw.W
open Go Go.Aw Go.Proofs
theorem has_u64 {n:Int} (h:IntKind.has .u64 n): U64 n:=by
 have:0≤n∧n≤18446744073709551615:=by simpa [IntKind.has,IntKind.min,IntKind.max,IntKind.bits,IntKind.signed] using h
 unfold U64;omega
theorem hasA {a:Address} (h:a.has): HasA a:=has_u64 h.2
theorem ids_has {l:List Identity} (h : ∀y∈l,y.has): ∀x∈l,U64 x.IRK:=fun x hx=>has_u64 (h x hx).2
theorem kinds_out {k:Int} (h : ¬(0≤k∧k≤6)): (k==(0:Int))= false∧(k==(1:Int))= false∧(k==(2:Int))= false∧(k==(3:Int))= false∧(k==(4:Int))= false∧(k==(5:Int))= false∧(k==(6:Int))= false:=by
 simp only [beq_eq_false_iff_ne,ne_eq];omega
theorem form_all (k:Int): (aForm k).known=(!(bif decide (k < (0:Int)) then true else decide ((6:Int) < k)))∧(aForm k).target=hasTarget k∧(aForm k).data=hasData k∧(aForm k).conn=(k==(5:Int)):= by
 by_cases h:0≤k∧k≤6
 ·rcases (by omega:k=0∨k=1∨k=2∨k=3∨k=4∨k=5∨k=6) with rfl | rfl | rfl | rfl | rfl | rfl | rfl <;> decide
 ·obtain ⟨e0,e1,e2,e3,e4,e5,e6⟩:= kinds_out h
  have hk:(bif decide (k < (0:Int)) then true else decide ((6:Int) < k))= true:=by
   by_cases h0:k < 0
   ·simp [h0]
   ·have h6:6 < k:=by omega
    simp [h6]
  rw [hk]
  unfold aForm hasTarget hasData
  simp only [e0,e1,e2,e3,e4,e5,e6]
  exact ⟨rfl,rfl,rfl,rfl⟩
theorem form_known (k:Int): (aForm k).known = !(bif decide (k < (0:Int)) then true else decide ((6:Int) < k)):= (form_all k).1
theorem form_target (k:Int): (aForm k).target=hasTarget k:=(form_all k).2.1
theorem form_data (k:Int): (aForm k).data=hasData k:=(form_all k).2.2.1
theorem form_conn (k:Int): (aForm k).conn=(k==(5:Int)):= (form_all k).2.2.2
theorem pCheck_eq (p:AdvPDU) (h:p.has): pCheck p=r19Check p:=by
 obtain ⟨h0,h1,h2,h3,h4⟩:= h
 have hm:=has_u64 h4.2.2.2.1
 unfold pCheck r19Check
 rw [form_known,form_target,form_data,form_conn,aCheck_eq _ (hasA h1),aCheck_eq _ (hasA h2),check_eq _ (kCheck_eq _ hm.1 hm.2),Bool.not_not]
def isA (a x:Address): Bool:=x.Kind==a.Kind && x.Bits==a.Bits
theorem isA_comm (a x:Address): isA a x=isA x a:=by unfold isA;rw [BEq.comm (a:=x.Kind),BEq.comm (a:=x.Bits)]
def elem20 (l:List Address) (a:Address): Bool:=l.any (isA a)
theorem drop_at (l:List Address) (i:Nat) (h:i < l.length): l.drop i=l.getD i Address.zero::l.drop (i+1):= by
 rw [List.drop_eq_getElem_cons h];simp [List.getD,h]
theorem element_go (l:List Address) (a:Address) (hl:l.length≤4611686018427387904): ∀(n:Nat) (i:Int),0≤i→i≤l.length→(l.length - i).toNat < n→r20Element.go l a n i=(l.drop i.toNat).any (isA a)
 | 0,i,h0,h1,h2=>by omega
 | n+1,i,h0,h1,h2=>by
  unfold r20Element.go
  by_cases hi:i < l.length
  ·rw [decide_eq_true hi,cond_true,drop_at l i.toNat (by omega),List.any_cons]
   rw [wi64 (i+(1:Int)) (by omega) (by omega),element_go l a hl n (i+1) (by omega) (by omega) (by omega),show (i+1).toNat=i.toNat+1 by omega]
   rw [show isA a (List.getD l i.toNat Address.zero)= ((List.getD l (Int.toNat i) Address.zero).Kind==a.Kind && (List.getD l (Int.toNat i) Address.zero).Bits==a.Bits) from rfl]
   generalize ((List.getD l (Int.toNat i) Address.zero).Kind==a.Kind && (List.getD l (Int.toNat i) Address.zero).Bits==a.Bits)= m
   cases m <;> rfl
  ·rw [decide_eq_false hi,cond_false,List.drop_eq_nil_of_le (by omega)];rfl
theorem element_eq (l:List Address) (a:Address) (hl:l.length≤4611686018427387904): r20Element l a=elem20 l a:=by
 unfold r20Element elem20
 rw [element_go l a hl _ _ (by omega) (by omega) (by omega)];rfl
theorem has_go (l:List Address) (a:Address) (n:Nat): ∀(i:Int),aHas.go l a n i=r20Element.go l a n i:=by
 induction n with
 | zero=>intro i;rfl
 | succ n ih =>
  intro i
  unfold aHas.go r20Element.go
  rw [ih,BEq.comm (a:=a.Kind),BEq.comm (a:=a.Bits)]
theorem has_eq (l:List Address) (a:Address) (hl:l.length≤4611686018427387904): aHas l a=elem20 l a:=by
 rw [←element_eq l a hl];exact has_go l a _ _
theorem same_go (a:List Address) (hl:a.length≤4611686018427387904): ∀(n:Nat) (i:Int),0≤i→i≤a.length→(a.length - i).toNat < n→r20Same.go a a n i=true
 | 0,i,h0,h1,h2=>by omega
 | n+1,i,h0,h1,h2=>by
  unfold r20Same.go
  by_cases hi:i < a.length
  ·rw [decide_eq_true hi,cond_true,wi64 (i+(1:Int)) (by omega) (by omega),same_go a hl n (i+1) (by omega) (by omega) (by omega)]
   simp
  ·rw [decide_eq_false hi,cond_false]
theorem same_refl (a:List Address) (hl:a.length≤4611686018427387904): r20Same a a=true:=by
 unfold r20Same
 rw [show ((a.length:Int) != (a.length:Int))= false by simp,cond_false]
 exact same_go a hl _ _ (by omega) (by omega) (by omega)
theorem accHas_eq (l:List Address) (ids:List Identity) (a:Address) (hl:l.length≤4611686018427387904) (hi:ids.length≤4611686018427387904) (ha:HasA a) (hk : ∀x∈ids,U64 x.IRK): accHas l ids a=r20Has l ids a:=by
 unfold accHas r20Has
 rw [find_eq ids a ha hk hi,has_eq l a hl,element_eq l a hl,has_eq l _ hl,element_eq l _ hl]
end Go.Aw.W
