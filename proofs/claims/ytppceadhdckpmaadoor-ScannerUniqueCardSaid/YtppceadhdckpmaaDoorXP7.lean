/- The law of names of chapter 22. -/
import Derived.Test.YtppceadhdckpmaaDoorXP6
import Derived.Test.YtppceadhdckpmaaDoorXW28
set_option linter.unusedVariables false
set_option maxRecDepth 8000
namespace Go.Aw.W
open Go Go.Aw Go.Proofs
attribute [local irreducible] pFind r9Find pDerive pCheck accHas
theorem entry_eq (u:Scanner) (q:AdvPDU) (hi : ∀x∈u.Params.Identities,U64 x.IRK) (hl:u.Params.Identities.length≤4611686018427387904) (hq:HasA q.Sender) (d:AdvPDU) (hk:d.Kind=q.Kind) (hs:d.Sender=q.Sender): r22Entry u.Params.Identities d=scEntry u q:=by
 unfold r22Entry scEntry r22name
 rw [hk,hs,find_eq u.Params.Identities q.Sender hq hi hl]
 cases decide (0≤r9Find u.Params.Identities q.Sender) <;> cases (q.Kind==4) <;> rfl
theorem uni_go (p P:ScanParams) (hP:P={p with Unique:=true}) (ops:List Law22Op) (hl:ops.length≤40) (hi : ∀x∈p.Identities,U64 x.IRK) (hil:p.Identities.length≤100) (ho : ∀k,HasA (List.getD ops k Law22Op.zero).PDU.Sender): ∀(n:Nat) (i:Int) (u:Scanner),HI P u→u.Seen.length≤i→0≤i→i≤ops.length→(ops.length - i).toNat < n→scannerUnique.go p ops n i u u.Seen=true
 | 0,i,u,h,hn,h0,h1,h2=>by omega
 | n+1,i,u,h,hn,h0,h1,h2=>by
  unfold scannerUnique.go
  by_cases hit:i < ops.length
  ·rw [decide_eq_true hit,cond_true,wi64 (i+(1:Int)) (by omega) (by omega)]
   cases ((List.getD ops (Int.toNat i) Law22Op.zero).Do==(1:Int))
   ·rw [cond_false,copied22_eq]
    have hk:=hear_keep h (List.getD ops (Int.toNat i) Law22Op.zero).PDU (List.getD ops (Int.toNat i) Law22Op.zero).Channel i
    have hq:=ho (Int.toNat i)
    generalize (List.getD ops (Int.toNat i) Law22Op.zero).PDU=q at hk hq ⊢
    generalize (List.getD ops (Int.toNat i) Law22Op.zero).Channel=ch at hk ⊢
    obtain ⟨k1,_,k3⟩:= hk
    have none:(scHear u q ch i).2.1=[]→(scHear u q ch i).1.Seen=u.Seen→scannerUnique.go p ops n (i+1) (scHear u q ch i).fst u.Seen=true:=by
     intro e1 e2
     rw [←e2]
     exact uni_go p P hP ops hl hi hil ho n _ _ k1 (by rw [e2];omega) (by omega) (by omega) (by omega)
    rcases k3 with e | ⟨w,w1,w2,e | e⟩
    ·rw [show (scHear u q ch i).2.1=[] by rw [e]]
     exact cf22 rfl (none (by rw [e]) (by rw [e]))
    ·rw [e.1]
     exact cf22 rfl (none e.1 (by rw [e.2,w2]))
    ·obtain ⟨e1,_,e3,_⟩:= e
     have hU:P.Unique=true:=by rw [hP]
     obtain ⟨e4,e5⟩:= e3 hU
     have hW:w.Params.Identities=p.Identities:=by rw [w1,h.1,hP]
     have en:=fun (d:AdvPDU) (hd:d.Kind=q.Kind) (hs:d.Sender=q.Sender)=> entry_eq w q (by rw [hW];exact hi) (by rw [hW];omega) hq d hd hs
     rw [hW] at en
     rw [e1]
     have ent:=en {Kind:=q.Kind,Sender:=q.Sender,Target:=⟨0,0⟩,Data:=[],Conn:={Access:=0,Init:=0,Update:={WinSize:=0,WinOffset:=0,Interval:=0,Latency:=0,Timeout:=0},Map:=0,Hop:=0,PPM:=0,Algorithm:=0}} rfl rfl
     have hel:r20Element u.Seen (scEntry w q)= false:=by
      rw [element_eq _ _ (by omega),←w2]
      exact e4
     have hs:=e5 (by rw [w2];omega)
     rw [w2] at hs
     have fin:scannerUnique.go p ops n (i+1) (scHear u q ch i).fst (u.Seen ++ [scEntry w q])= true:=by
      rw [←hs]
      exact uni_go p P hP ops hl hi hil ho n _ _ k1 (by rw [hs];simp only [List.length_append,List.length_cons,List.length_nil];omega) (by omega) (by omega) (by omega)
     have key : ∀E:Address,E=scEntry w q→∀(A:Bool) (b:Bool),b=false→cond (r20Element u.Seen E) false (cond b A (scannerUnique.go p ops n (i+1) (scHear u q ch i).fst (u.Seen ++ [E])))= true:=by
      intro E hE A b hb
      rw [hE,hel,hb]
      exact fin
     exact key _ ent _ _ rfl
   ·rw [cond_true]
    have hk:=miss_keep h
    have:=uni_go p P hP ops hl hi hil ho n (i+1) (scMiss u) hk.1 (by rw [hk.2];omega) (by omega) (by omega) (by omega)
    rw [hk.2] at this
    exact this
  ·rw [decide_eq_false hit,cond_false]
theorem ops_sender {ops:List Law22Op} (h : ∀y∈ops,Law22Op.has y) (k:Nat): HasA (List.getD ops k Law22Op.zero).PDU.Sender:=by
 rw [List.getD_eq_getElem?_getD]
 cases hk:ops[k]? with
 | none=>exact ⟨by decide,by decide⟩
 | some y=>exact hasA (h y (List.mem_of_getElem? hk)).2.2.1.2.1
theorem scannerUnique_pre (p:ScanParams) (ops:List Law22Op) (b0:p.has) (b2:(∀y∈ops,Law22Op.has y)∧ops.length*168≤140737488351232): ∀k:Nat,(List.getD ops k Law22Op.zero).PDU.Data.length≤140737488355328:=fun k=>ops_data b2.1 k
theorem scannerUnique_true (p:ScanParams) (ops:List Law22Op) (b0:p.has) (b2:(∀y∈ops,Law22Op.has y)∧ops.length*168≤140737488351232): scannerUnique p ops=true:=by
 unfold scannerUnique
 cases hs:small22 {p with Unique:=true}
 ·rfl
 by_cases h40:(40:Int) < (ops.length:Int)
 ·rw [decide_eq_true h40];rfl
 have hil:p.Identities.length≤100:=by
  unfold small22 at hs
  by_cases c:((p.Accept.length:Int)≤100)
  ·rw [decide_eq_true c,cond_true,decide_eq_true_eq] at hs
   have hs:((p.Identities.length:Int)≤100):= hs
   omega
  ·rw [decide_eq_false c] at hs;cases hs
 rw [decide_eq_false h40,own22_eq]
 by_cases hz:(scStart {p with Unique:=true} 7 0).2=0
 ·have hk:=start_keep {p with Unique:=true} 7 0 ⟨by decide,by decide⟩ hz
  rw [hz]
  have:=uni_go p _ rfl ops (by omega) (ids_has b0.2.2.2.2.2.1.1) hil (ops_sender b2.1) (ops.length+1) 0 _ hk.1 (by rw [hk.2];exact Int.le_refl _) (by omega) (by omega) (by omega)
  rw [hk.2] at this
  exact this
 ·rw [show ((scStart {p with Unique:=true} 7 0).2 != 0)= true by simp [hz]];rfl
end Go.Aw.W
