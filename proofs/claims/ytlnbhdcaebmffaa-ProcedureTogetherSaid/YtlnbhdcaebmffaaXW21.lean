/- Contracts of the seat (printed by ct.py). -/
import Derived.Test.YtlnbhdcaebmffaaXW20
import Derived.Test.YtlnbhdcaebmffaaXAwL
set_option linter.unusedVariables false
set_option linter.unusedSimpArgs false
set_option maxRecDepth 20000
set_option maxHeartbeats 1000000
namespace Go.Aw.W
open Go Go.Aw Go.Proofs
attribute [local irreducible] evCode evFun evOps evDs evOne ctxK loopK loopB subC bodyC headS okH roundK
attribute [local irreducible] cCheck procStart procHandle procReady procDue loopL
theorem evFunT_mono (C:Cx) {R:FuncId→Option (RL C.S.El)} (hM : ∀f L,R f=some L→∀args H (K K':AV C.S.El→List (AObj C.S.El)→Prop),(∀r H',K r H'→K' r H')→L args H K→L args H K'): ∀fuel,InlMono (evFunT C R fuel)
 | 0,f,args,H,K,K',h,k=>by unfold evFunT at k;exact k.elim
 | n+1,f,args,H,K,K',h,k=>by
  unfold evFunT at k ⊢
  split at k
  ·rename_i L hL
   exact hM _ _ hL _ _ _ _ h k
  split at k
  ·exact also_mono (h _ _) k
  split at k
  ·exact k.elim
  ·split at k
   ·exact k.elim
   ·refine evCode_mono (evFunT_mono C hM n) _ _ (fun e s k=>?_) k
    cases e with
    | exit i=>exact k
    | normal=>revert k;dsimp only;split;exact retK_mono h;exact id
    | ret=>revert k;dsimp only;split;exact retK_mono h;exact id
def loopT (C:Cx) (R:FuncId→Option (RL C.S.El)) (fuel:Nat) (f:FuncId) (p:List Bool) (lo:Nat) (Q:AV C.S.El→List (AObj C.S.El)→Prop): AExit→St C.S.El→Prop:=ctxK C (evFunT C R fuel) p (bodyC C.P f) (endL C (funcC C.P f) lo Q)
def lwV (f:FuncId): Option Nat:=bif Nat.beq f 57 then some 4 else lwL 2 [56,58] f
def mkCxV (P:Program) (S:Sig) (tab:List (FuncId×Ct S.El)) (u:Nat) (lw:FuncId→Option Nat) (lv:List Nat): Cx:={P:=P,S:=S,T:=lookT tab,F:=autoF P,unroll:=u,win:=true,tl:=true,tr:=true,lw:=lw,sp:=true,ts:=true,lv:=lv}
theorem mkCxV_ok {P:Program} {S:Sig} (hS:SigOk S) (hm:P.follows .mixedOrders=true) {tab:List (FuncId×Ct S.El)} (ht:TabOk P S tab) (u:Nat) (lw:FuncId→Option Nat) (lv:List Nat): CxOk (mkCxV P S tab u lw lv):=
 have h:=mkCx_ok hS hm ht u
 ⟨h.sig,h.ct,h.plainT,h.fn,h.mixed,h.sum,fun _ _ h=>by cases h⟩
theorem putRC_mono (args:List (AV El)) (H:List (AObj El)) (K K':AV El→List (AObj El)→Prop) (hk : ∀r H',K r H'→K' r H') (h:putRC args H K): putRC args H K':=by
 unfold putRC at h ⊢
 split at h
 case h_2=>exact h.elim
 rename_i k x y he
 obtain ⟨l,rfl,q⟩:= slX_some h
 show cond (k==0) _ _
 revert q
 cases (k==0)
 ·cases (k==1)
  ·exact fun q=>q.elim
  ·exact fun q=>⟨q.1,hk _ _ q.2⟩
 ·exact fun q=>⟨q.1,hk _ _ q.2⟩
theorem rPutC_mono : ∀f L,rPutC f=some L→∀args H (K K':AV El→List (AObj El)→Prop),(∀r H',K r H'→K' r H')→L args H K→L args H K':=by
 intro f L h
 unfold rPutC at h
 revert h
 cases (Nat.beq f 57) <;> intro h
 ·cases h
 ·cases h;exact putRC_mono
theorem arrA.g {a b c:Bool} (h:(bif bif a then b else false then c else false)= true): a=true∧(bif b then c else false)= true:=by cases a <;> cases b <;> cases c <;> simp at h ⊢
theorem arrA.q {a:Bool} {n:Nat} (h:(bif a then decide ((0:Int) < (↑n:Int)) else false)= true): 0 < n:=by
 cases a
 ·cases h
 ·have h:decide ((0:Int) < (↑n:Int))= true:=h
  simp only [decide_eq_true_eq] at h;omega
theorem arrA.a {n:Nat} (h:n≤1) (h2:decide (IntKind.wrap IntKind.i64 ((0:Int)+ (1:Int)) < (↑n:Int))= true): False:=by
 have hw:IntKind.wrap IntKind.i64 ((0:Int)+ (1:Int))= 1:=(by decide)
 rw [hw] at h2
 simp only [decide_eq_true_eq] at h2;omega
theorem arrA.c0 {a b c:Bool} (h:(bif a then b else false)= false): (bif a then (bif b then c else false) else false)= false:=by cases a <;> cases b <;> cases c <;> simp at h ⊢
theorem arrA.c1 {a b c:Bool} (h:(bif bif a then b else false then c else false)= false): (bif a then (bif b then c else false) else false)= false:=by cases a <;> cases b <;> cases c <;> simp at h ⊢
theorem arrA.i0 {n:Nat} (h:0 < n): (0:Int)≤(0:Int)∧(0:Int) < (↑n:Int):= by omega
theorem arrA.i1 {n:Nat} (h:0 < n): Int.toNat (0:Int) < n:=h
theorem arrA.i2 {n:Nat} (h:0 < n): (0:Int)≤(1:Int)∧(1:Int)≤(↑n:Int):= by omega
def aC0 (e:Law28exchange): Control:=List.getD e.queues_0 (Int.toNat (0:Int)) Control.zero
def aD0 (e:Law28exchange): Procs×List Control×List Indication:=procHandle e.sides_1 (aC0 e) e.event e.now
def aX0 (e:Law28exchange): Law28exchange:=putC1F {e with sides_1:=(aD0 e).1,queues_0:=List.drop (Int.toNat (1:Int)) e.queues_0} (aD0 e).2.1
def aA0 (f2:Law28Talk) (e:Law28exchange): Procs×List Control:=procAnswer (aD0 e).1 f2.Found f2.Salt
def aY0 (f2:Law28Talk) (e:Law28exchange): Law28exchange:=putC1F {aX0 e with sides_1:=(aA0 f2 e).1} (aA0 f2 e).2
def aF0 (e x:Law28exchange): Law28exchange:={x with sides_0:=(procSent e.sides_0 (aC0 e)).1}
def dX0 (f2:Law28Talk) (e:Law28exchange): Law28exchange:=aF0 e (match (aD0 e).2.2 with
 | []=> aX0 e
 | i::_=>cond (i.Kind==(8:Int)) (aY0 f2 e) (aX0 e))
theorem dX0_nil {f2:Law28Talk} {e:Law28exchange} (h:decide ((0:Int) < (↑(List.length (aD0 e).2.2): Int))= false): dX0 f2 e=aF0 e (aX0 e):= by
 unfold dX0
 cases hl:(aD0 e).2.2 with
 | nil=>rfl
 | cons i l=>rw [hl] at h;simp only [List.length_cons,decide_eq_false_iff_not] at h;omega
theorem dX0_no {f2:Law28Talk} {e:Law28exchange} (h:decide ((0:Int) < (↑(List.length (aD0 e).2.2): Int))= true) (h2:((List.getD (aD0 e).2.2 (Int.toNat (0:Int)) Indication.zero).Kind==(8:Int))= false): dX0 f2 e=aF0 e (aX0 e):= by
 unfold dX0
 cases hl:(aD0 e).2.2 with
 | nil=>rfl
 | cons i l=>rw [hl] at h2;have h2:(i.Kind==(8:Int))= false:=h2;dsimp only;rw [h2,cond_false]
theorem dX0_key {f2:Law28Talk} {e:Law28exchange} (h:decide ((0:Int) < (↑(List.length (aD0 e).2.2): Int))= true) (h2:((List.getD (aD0 e).2.2 (Int.toNat (0:Int)) Indication.zero).Kind==(8:Int))= true): dX0 f2 e=aF0 e (aY0 f2 e):= by
 unfold dX0
 cases hl:(aD0 e).2.2 with
 | nil=>rw [hl] at h;cases h
 | cons i l=>rw [hl] at h2;have h2:(i.Kind==(8:Int))= true:=h2;dsimp only;rw [h2,cond_true]
def goes0 (e:Law28exchange): Bool:=bif decide ((0:Int) < (↑(List.length e.queues_0): Int)) then !(bif e.sides_0.Ended != (0:Int) then true else e.sides_1.Ended != (0:Int)) else false
def arr0F (f2:Law28Talk): Nat→Law28exchange→Law28exchange
 | 0,e=>e
 | n+1,e=>cond (goes0 e) (arr0F f2 n (dX0 f2 e)) e
theorem arr0F_stop {f2:Law28Talk} {n:Nat} {e:Law28exchange} (h:(bif decide ((0:Int) < (↑n:Int)) then goes0 e else false)= false): arr0F f2 n e=e:=by
 cases n with
 | zero=>rfl
 | succ n =>
  have h0:decide ((0:Int) < (↑(n+1): Int))= true:=by simp only [decide_eq_true_eq];omega
  rw [h0,cond_true] at h
  unfold arr0F
  rw [h];rfl
theorem arr0F_step {f2:Law28Talk} {n:Nat} {e:Law28exchange} (h:goes0 e=true): arr0F f2 (n+1) e=arr0F f2 n (dX0 f2 e):= by
 conv=>lhs;unfold arr0F
 rw [h];rfl
structure DlvH0 (f2:Law28Talk) (e:Law28exchange): Prop where
 w1:e.sides_1.Waiting.length≤1000∧e.sides_1.Pending.length≤1000
 l1:(aD0 e).2.2.length≤1
 q1:e.queues_1.length+(aD0 e).2.1.length≤1000000
 w2:(aD0 e).1.Waiting.length≤1000∧(aD0 e).1.Pending.length≤1000
 q2:(e.queues_1 ++ (aD0 e).2.1).length+(aA0 f2 e).2.length≤1000000
 w3:e.sides_0.Waiting.length≤1000∧e.sides_0.Pending.length≤1000
def arr0.e0 (f2:Law28Talk) (e:Law28exchange): Procs×List Control×List Indication:=procHandle e.sides_1 (List.getD e.queues_0 (Int.toNat (0:Int)) Control.zero) e.event e.now
def arr0.e1 (f2:Law28Talk) (e:Law28exchange): Law28exchange:=putC1F {sides_0:=e.sides_0,sides_1:=(arr0.e0 f2 e).fst,queues_0:=List.drop (Int.toNat 1) e.queues_0,queues_1:=e.queues_1,done_0:=e.done_0,done_1:=e.done_1,versions_0:=e.versions_0,versions_1:=e.versions_1,event:=e.event,now:=e.now:Law28exchange} (arr0.e0 f2 e).snd.fst
def arr0.e2 (f2:Law28Talk) (e:Law28exchange): Procs×List Control:=procAnswer (arr0.e1 f2 e).sides_1 f2.Found f2.Salt
def arr0.e3 (f2:Law28Talk) (e:Law28exchange): Law28exchange:=putC1F {sides_0:=(arr0.e1 f2 e).sides_0,sides_1:=(arr0.e2 f2 e).fst,queues_0:=(arr0.e1 f2 e).queues_0,queues_1:=(arr0.e1 f2 e).queues_1,done_0:=(arr0.e1 f2 e).done_0,done_1:=(arr0.e1 f2 e).done_1,versions_0:=(arr0.e1 f2 e).versions_0,versions_1:=(arr0.e1 f2 e).versions_1,event:=(arr0.e1 f2 e).event,now:=(arr0.e1 f2 e).now:Law28exchange} (arr0.e2 f2 e).snd
def arr0.e4 (f2:Law28Talk) (e:Law28exchange): Procs×List Control:=procAnswer (arr0.e3 f2 e).sides_1 f2.Found f2.Salt
def arr0.e5 (f2:Law28Talk) (e:Law28exchange): Procs×List Indication:=procSent (arr0.e3 f2 e).sides_0 (List.getD e.queues_0 (Int.toNat (0:Int)) Control.zero)
def arr0.e6 (f2:Law28Talk) (e:Law28exchange): Procs×List Indication:=procSent (arr0.e1 f2 e).sides_0 (List.getD e.queues_0 (Int.toNat (0:Int)) Control.zero)
def arr0.hd (ft f2:Law28Talk) (e:Law28exchange) (nn:Int): St El:={lo:=2,slots:=[(5, .ref 2 0),(0, .ref 1 0),(2, .v (.int .i64 0)),(3, .v (.int .i64 nn))],n:=142,objs:=exHB ft f2 e}
def arr0.st (ft f2:Law28Talk) (e:Law28exchange) (nn:Int) (J:St El→Prop) (K:AV El→List (AObj El)→Prop): Prop:=Ob (o3 (decide (0 < nn)))∧(Ob (o3 (decide (0 < nn)))∧(Ob (o3 (decide (0 < nn)))∧(Ob (o3 (decide (0 < nn)))∧(Ob (decide (0 < nn)= true→(0:Int)≤(0:Int)∧0 < (↑(2:Nat): Int))∧(Ob (o3 (decide (0 < nn)))∧(Ob (o3 (decide (0 < nn)))∧(Ob (o3 (decide (0 < nn)))∧(Ob (o2 (decide (0 < nn)))∧(cond (bif decide (0 < nn) then decide (0 < (↑(List.length e.queues_0): Int)) else false) (Ob ((bif decide (0 < nn) then decide (0 < (↑(List.length e.queues_0): Int)) else false)= true)∧(Ob ((0:Int)≤(0:Int)∧0 < (↑(2:Nat): Int))∧(Ob (o3 (!e.sides_0.Ended != 0))∧(Ob (o3 (!e.sides_0.Ended != 0))∧(Ob (o3 (!e.sides_0.Ended != 0))∧(Ob ((!e.sides_0.Ended != 0)= true→(0:Int)≤(1:Int)∧1 < (↑(2:Nat): Int))∧(Ob (o3 (!e.sides_0.Ended != 0))∧(Ob (o3 (!e.sides_0.Ended != 0))∧(Ob (o3 (!e.sides_0.Ended != 0))∧(Ob (on (e.sides_0.Ended != 0))∧(Ob (o2 (bif decide (0 < nn) then decide (0 < (↑(List.length e.queues_0): Int)) else false))∧(cond (bif bif decide (0 < nn) then decide (0 < (↑(List.length e.queues_0): Int)) else false then !bif e.sides_0.Ended != 0 then true else e.sides_1.Ended != 0 else false) (Ob ((0:Int)≤(0:Int)∧0 < (↑(2:Nat): Int))∧(Ob ((0:Int)≤(0:Int)∧0 < (↑(List.length e.queues_0): Int))∧(Ob (Int.toNat 0 < List.length e.queues_0)∧(Ob ((0:Int)≤(0:Int)∧0 < (↑(2:Nat): Int))∧(Ob ((0:Int)≤(1:Int)∧1≤(↑(List.length e.queues_0): Int))∧(Ob ((0:Int)≤(0:Int)∧0 < (↑(2:Nat): Int))∧(Ob (0≤IntKind.wrap IntKind.i64 ((1:Int) - (0:Int))∧IntKind.wrap IntKind.i64 ((1:Int) - (0:Int)) < (↑(2:Nat): Int))∧(Ob (List.length e.sides_1.Waiting≤(1000:Nat)∧List.length e.sides_1.Pending≤(1000:Nat))∧(Ob (0≤IntKind.wrap IntKind.i64 ((1:Int) - (0:Int))∧IntKind.wrap IntKind.i64 ((1:Int) - (0:Int)) < (↑(2:Nat): Int))∧(Ob (putC1.hyp {sides_0:=e.sides_0,sides_1:=(arr0.e0 f2 e).fst,queues_0:=List.drop (Int.toNat 1) e.queues_0,queues_1:=e.queues_1,done_0:=e.done_0,done_1:=e.done_1,versions_0:=e.versions_0,versions_1:=e.versions_1,event:=e.event,now:=e.now:Law28exchange} (arr0.e0 f2 e).snd.fst)∧((List.length (arr0.e0 f2 e).snd.snd≤(9223372036854775807:Nat))→(cond (decide (0 < (↑(List.length (arr0.e0 f2 e).snd.snd): Int))) (Ob ((0:Int)≤(0:Int)∧0 < (↑(List.length (arr0.e0 f2 e).snd.snd): Int))∧(cond ((List.getD (arr0.e0 f2 e).snd.snd (Int.toNat 0) Indication.zero).Kind==8) (Ob (0≤IntKind.wrap IntKind.i64 ((1:Int) - (0:Int))∧IntKind.wrap IntKind.i64 ((1:Int) - (0:Int)) < (↑(2:Nat): Int))∧(Ob (List.length (arr0.e1 f2 e).sides_1.Waiting≤(1000:Nat)∧List.length (arr0.e1 f2 e).sides_1.Pending≤(1000:Nat))∧(Ob (0≤IntKind.wrap IntKind.i64 ((1:Int) - (0:Int))∧IntKind.wrap IntKind.i64 ((1:Int) - (0:Int)) < (↑(2:Nat): Int))∧(Ob (putC1.hyp {sides_0:=(arr0.e1 f2 e).sides_0,sides_1:=(arr0.e2 f2 e).fst,queues_0:=(arr0.e1 f2 e).queues_0,queues_1:=(arr0.e1 f2 e).queues_1,done_0:=(arr0.e1 f2 e).done_0,done_1:=(arr0.e1 f2 e).done_1,versions_0:=(arr0.e1 f2 e).versions_0,versions_1:=(arr0.e1 f2 e).versions_1,event:=(arr0.e1 f2 e).event,now:=(arr0.e1 f2 e).now:Law28exchange} (arr0.e2 f2 e).snd)∧((List.length (arr0.e0 f2 e).snd.snd≤(9223372036854775807:Nat))→(cond (decide (IntKind.wrap IntKind.i64 ((0:Int)+ (1:Int)) < (↑(List.length (arr0.e0 f2 e).snd.snd): Int))) (Ob (0≤IntKind.wrap IntKind.i64 ((0:Int)+ (1:Int))∧IntKind.wrap IntKind.i64 ((0:Int)+ (1:Int)) < (↑(List.length (arr0.e0 f2 e).snd.snd): Int))∧(cond ((List.getD (arr0.e0 f2 e).snd.snd (Int.toNat (IntKind.wrap IntKind.i64 ((0:Int)+ (1:Int)))) Indication.zero).Kind==8) (Ob (0≤IntKind.wrap IntKind.i64 ((1:Int) - (0:Int))∧IntKind.wrap IntKind.i64 ((1:Int) - (0:Int)) < (↑(2:Nat): Int))∧(Ob (List.length (arr0.e3 f2 e).sides_1.Waiting≤(1000:Nat)∧List.length (arr0.e3 f2 e).sides_1.Pending≤(1000:Nat))∧(Ob (0≤IntKind.wrap IntKind.i64 ((1:Int) - (0:Int))∧IntKind.wrap IntKind.i64 ((1:Int) - (0:Int)) < (↑(2:Nat): Int))∧(Ob (putC1.hyp {sides_0:=(arr0.e3 f2 e).sides_0,sides_1:=(arr0.e4 f2 e).fst,queues_0:=(arr0.e3 f2 e).queues_0,queues_1:=(arr0.e3 f2 e).queues_1,done_0:=(arr0.e3 f2 e).done_0,done_1:=(arr0.e3 f2 e).done_1,versions_0:=(arr0.e3 f2 e).versions_0,versions_1:=(arr0.e3 f2 e).versions_1,event:=(arr0.e3 f2 e).event,now:=(arr0.e3 f2 e).now:Law28exchange} (arr0.e4 f2 e).snd)∧(False))))) (False))) (Ob ((0:Int)≤(0:Int)∧0 < (↑(2:Nat): Int))∧(Ob (List.length (arr0.e3 f2 e).sides_0.Waiting≤(1000:Nat)∧List.length (arr0.e3 f2 e).sides_0.Pending≤(1000:Nat))∧(Ob ((0:Int)≤(0:Int)∧0 < (↑(2:Nat): Int))∧(J (arr0.hd ft f2 (aF0 e (aY0 f2 e)) (IntKind.wrap IntKind.i64 (nn - 1))))))))))))) ((List.length (arr0.e0 f2 e).snd.snd≤(9223372036854775807:Nat))→(cond (decide (IntKind.wrap IntKind.i64 ((0:Int)+ (1:Int)) < (↑(List.length (arr0.e0 f2 e).snd.snd): Int))) (Ob (0≤IntKind.wrap IntKind.i64 ((0:Int)+ (1:Int))∧IntKind.wrap IntKind.i64 ((0:Int)+ (1:Int)) < (↑(List.length (arr0.e0 f2 e).snd.snd): Int))∧(cond ((List.getD (arr0.e0 f2 e).snd.snd (Int.toNat (IntKind.wrap IntKind.i64 ((0:Int)+ (1:Int)))) Indication.zero).Kind==8) (Ob (0≤IntKind.wrap IntKind.i64 ((1:Int) - (0:Int))∧IntKind.wrap IntKind.i64 ((1:Int) - (0:Int)) < (↑(2:Nat): Int))∧(Ob (List.length (arr0.e1 f2 e).sides_1.Waiting≤(1000:Nat)∧List.length (arr0.e1 f2 e).sides_1.Pending≤(1000:Nat))∧(Ob (0≤IntKind.wrap IntKind.i64 ((1:Int) - (0:Int))∧IntKind.wrap IntKind.i64 ((1:Int) - (0:Int)) < (↑(2:Nat): Int))∧(Ob (putC1.hyp {sides_0:=(arr0.e1 f2 e).sides_0,sides_1:=(arr0.e2 f2 e).fst,queues_0:=(arr0.e1 f2 e).queues_0,queues_1:=(arr0.e1 f2 e).queues_1,done_0:=(arr0.e1 f2 e).done_0,done_1:=(arr0.e1 f2 e).done_1,versions_0:=(arr0.e1 f2 e).versions_0,versions_1:=(arr0.e1 f2 e).versions_1,event:=(arr0.e1 f2 e).event,now:=(arr0.e1 f2 e).now:Law28exchange} (arr0.e2 f2 e).snd)∧(False))))) (False))) (Ob ((0:Int)≤(0:Int)∧0 < (↑(2:Nat): Int))∧(Ob (List.length (arr0.e1 f2 e).sides_0.Waiting≤(1000:Nat)∧List.length (arr0.e1 f2 e).sides_0.Pending≤(1000:Nat))∧(Ob ((0:Int)≤(0:Int)∧0 < (↑(2:Nat): Int))∧(J (arr0.hd ft f2 (aF0 e (aX0 e)) (IntKind.wrap IntKind.i64 (nn - 1))))))))))) (Ob ((0:Int)≤(0:Int)∧0 < (↑(2:Nat): Int))∧(Ob (List.length (arr0.e1 f2 e).sides_0.Waiting≤(1000:Nat)∧List.length (arr0.e1 f2 e).sides_0.Pending≤(1000:Nat))∧(Ob ((0:Int)≤(0:Int)∧0 < (↑(2:Nat): Int))∧(J (arr0.hd ft f2 (aF0 e (aX0 e)) (IntKind.wrap IntKind.i64 (nn - 1))))))))))))))))))) (K (.tup []) (exHA ft e)))))))))))))) (Ob (o3 (bif decide (0 < nn) then decide (0 < (↑(List.length e.queues_0): Int)) else false))∧(Ob (o2 (bif decide (0 < nn) then decide (0 < (↑(List.length e.queues_0): Int)) else false))∧(cond (bif bif decide (0 < nn) then decide (0 < (↑(List.length e.queues_0): Int)) else false then true else false) (Ob ((0:Int)≤(0:Int)∧0 < (↑(2:Nat): Int))∧(Ob ((0:Int)≤(0:Int)∧0 < (↑(List.length e.queues_0): Int))∧(Ob (Int.toNat 0 < List.length e.queues_0)∧(Ob ((0:Int)≤(0:Int)∧0 < (↑(2:Nat): Int))∧(Ob ((0:Int)≤(1:Int)∧1≤(↑(List.length e.queues_0): Int))∧(Ob ((0:Int)≤(0:Int)∧0 < (↑(2:Nat): Int))∧(Ob (0≤IntKind.wrap IntKind.i64 ((1:Int) - (0:Int))∧IntKind.wrap IntKind.i64 ((1:Int) - (0:Int)) < (↑(2:Nat): Int))∧(Ob (List.length e.sides_1.Waiting≤(1000:Nat)∧List.length e.sides_1.Pending≤(1000:Nat))∧(Ob (0≤IntKind.wrap IntKind.i64 ((1:Int) - (0:Int))∧IntKind.wrap IntKind.i64 ((1:Int) - (0:Int)) < (↑(2:Nat): Int))∧(Ob (putC1.hyp {sides_0:=e.sides_0,sides_1:=(arr0.e0 f2 e).fst,queues_0:=List.drop (Int.toNat 1) e.queues_0,queues_1:=e.queues_1,done_0:=e.done_0,done_1:=e.done_1,versions_0:=e.versions_0,versions_1:=e.versions_1,event:=e.event,now:=e.now:Law28exchange} (arr0.e0 f2 e).snd.fst)∧((List.length (arr0.e0 f2 e).snd.snd≤(9223372036854775807:Nat))→(cond (decide (0 < (↑(List.length (arr0.e0 f2 e).snd.snd): Int))) (Ob ((0:Int)≤(0:Int)∧0 < (↑(List.length (arr0.e0 f2 e).snd.snd): Int))∧(cond ((List.getD (arr0.e0 f2 e).snd.snd (Int.toNat 0) Indication.zero).Kind==8) (Ob (0≤IntKind.wrap IntKind.i64 ((1:Int) - (0:Int))∧IntKind.wrap IntKind.i64 ((1:Int) - (0:Int)) < (↑(2:Nat): Int))∧(Ob (List.length (arr0.e1 f2 e).sides_1.Waiting≤(1000:Nat)∧List.length (arr0.e1 f2 e).sides_1.Pending≤(1000:Nat))∧(Ob (0≤IntKind.wrap IntKind.i64 ((1:Int) - (0:Int))∧IntKind.wrap IntKind.i64 ((1:Int) - (0:Int)) < (↑(2:Nat): Int))∧(Ob (putC1.hyp {sides_0:=(arr0.e1 f2 e).sides_0,sides_1:=(arr0.e2 f2 e).fst,queues_0:=(arr0.e1 f2 e).queues_0,queues_1:=(arr0.e1 f2 e).queues_1,done_0:=(arr0.e1 f2 e).done_0,done_1:=(arr0.e1 f2 e).done_1,versions_0:=(arr0.e1 f2 e).versions_0,versions_1:=(arr0.e1 f2 e).versions_1,event:=(arr0.e1 f2 e).event,now:=(arr0.e1 f2 e).now:Law28exchange} (arr0.e2 f2 e).snd)∧((List.length (arr0.e0 f2 e).snd.snd≤(9223372036854775807:Nat))→(cond (decide (IntKind.wrap IntKind.i64 ((0:Int)+ (1:Int)) < (↑(List.length (arr0.e0 f2 e).snd.snd): Int))) (Ob (0≤IntKind.wrap IntKind.i64 ((0:Int)+ (1:Int))∧IntKind.wrap IntKind.i64 ((0:Int)+ (1:Int)) < (↑(List.length (arr0.e0 f2 e).snd.snd): Int))∧(cond ((List.getD (arr0.e0 f2 e).snd.snd (Int.toNat (IntKind.wrap IntKind.i64 ((0:Int)+ (1:Int)))) Indication.zero).Kind==8) (Ob (0≤IntKind.wrap IntKind.i64 ((1:Int) - (0:Int))∧IntKind.wrap IntKind.i64 ((1:Int) - (0:Int)) < (↑(2:Nat): Int))∧(Ob (List.length (arr0.e3 f2 e).sides_1.Waiting≤(1000:Nat)∧List.length (arr0.e3 f2 e).sides_1.Pending≤(1000:Nat))∧(Ob (0≤IntKind.wrap IntKind.i64 ((1:Int) - (0:Int))∧IntKind.wrap IntKind.i64 ((1:Int) - (0:Int)) < (↑(2:Nat): Int))∧(Ob (putC1.hyp {sides_0:=(arr0.e3 f2 e).sides_0,sides_1:=(arr0.e4 f2 e).fst,queues_0:=(arr0.e3 f2 e).queues_0,queues_1:=(arr0.e3 f2 e).queues_1,done_0:=(arr0.e3 f2 e).done_0,done_1:=(arr0.e3 f2 e).done_1,versions_0:=(arr0.e3 f2 e).versions_0,versions_1:=(arr0.e3 f2 e).versions_1,event:=(arr0.e3 f2 e).event,now:=(arr0.e3 f2 e).now:Law28exchange} (arr0.e4 f2 e).snd)∧(False))))) (False))) (Ob ((0:Int)≤(0:Int)∧0 < (↑(2:Nat): Int))∧(Ob (List.length (arr0.e3 f2 e).sides_0.Waiting≤(1000:Nat)∧List.length (arr0.e3 f2 e).sides_0.Pending≤(1000:Nat))∧(Ob ((0:Int)≤(0:Int)∧0 < (↑(2:Nat): Int))∧(J (arr0.hd ft f2 (aF0 e (aY0 f2 e)) (IntKind.wrap IntKind.i64 (nn - 1))))))))))))) ((List.length (arr0.e0 f2 e).snd.snd≤(9223372036854775807:Nat))→(cond (decide (IntKind.wrap IntKind.i64 ((0:Int)+ (1:Int)) < (↑(List.length (arr0.e0 f2 e).snd.snd): Int))) (Ob (0≤IntKind.wrap IntKind.i64 ((0:Int)+ (1:Int))∧IntKind.wrap IntKind.i64 ((0:Int)+ (1:Int)) < (↑(List.length (arr0.e0 f2 e).snd.snd): Int))∧(cond ((List.getD (arr0.e0 f2 e).snd.snd (Int.toNat (IntKind.wrap IntKind.i64 ((0:Int)+ (1:Int)))) Indication.zero).Kind==8) (Ob (0≤IntKind.wrap IntKind.i64 ((1:Int) - (0:Int))∧IntKind.wrap IntKind.i64 ((1:Int) - (0:Int)) < (↑(2:Nat): Int))∧(Ob (List.length (arr0.e1 f2 e).sides_1.Waiting≤(1000:Nat)∧List.length (arr0.e1 f2 e).sides_1.Pending≤(1000:Nat))∧(Ob (0≤IntKind.wrap IntKind.i64 ((1:Int) - (0:Int))∧IntKind.wrap IntKind.i64 ((1:Int) - (0:Int)) < (↑(2:Nat): Int))∧(Ob (putC1.hyp {sides_0:=(arr0.e1 f2 e).sides_0,sides_1:=(arr0.e2 f2 e).fst,queues_0:=(arr0.e1 f2 e).queues_0,queues_1:=(arr0.e1 f2 e).queues_1,done_0:=(arr0.e1 f2 e).done_0,done_1:=(arr0.e1 f2 e).done_1,versions_0:=(arr0.e1 f2 e).versions_0,versions_1:=(arr0.e1 f2 e).versions_1,event:=(arr0.e1 f2 e).event,now:=(arr0.e1 f2 e).now:Law28exchange} (arr0.e2 f2 e).snd)∧(False))))) (False))) (Ob ((0:Int)≤(0:Int)∧0 < (↑(2:Nat): Int))∧(Ob (List.length (arr0.e1 f2 e).sides_0.Waiting≤(1000:Nat)∧List.length (arr0.e1 f2 e).sides_0.Pending≤(1000:Nat))∧(Ob ((0:Int)≤(0:Int)∧0 < (↑(2:Nat): Int))∧(J (arr0.hd ft f2 (aF0 e (aX0 e)) (IntKind.wrap IntKind.i64 (nn - 1))))))))))) (Ob ((0:Int)≤(0:Int)∧0 < (↑(2:Nat): Int))∧(Ob (List.length (arr0.e1 f2 e).sides_0.Waiting≤(1000:Nat)∧List.length (arr0.e1 f2 e).sides_0.Pending≤(1000:Nat))∧(Ob ((0:Int)≤(0:Int)∧0 < (↑(2:Nat): Int))∧(J (arr0.hd ft f2 (aF0 e (aX0 e)) (IntKind.wrap IntKind.i64 (nn - 1))))))))))))))))))) (K (.tup []) (exHA ft e))))))))))))))
theorem arr0.st_ok (ft f2:Law28Talk) (e:Law28exchange) (nn:Int) (J:St El→Prop) (K:AV El→List (AObj El)→Prop): evCode ((mkCxV Try.prog S tab_procDue 102 lwV [8])) (evFunT ((mkCxV Try.prog S tab_procDue 102 lwV [8])) rPutC 3) (loopB Try.prog 58 [true,false]) (arr0.hd ft f2 e nn) (roundK (C:=(mkCxV Try.prog S tab_procDue 102 lwV [8])) [5,0,2,3] [] J (loopT ((mkCxV Try.prog S tab_procDue 102 lwV [8])) rPutC 3 58 [true,false] 2 K))= arr0.st ft f2 e nn J K:=by kernel_rfl
theorem arr0.nx (I:Law28exchange→Prop) (ft f2:Law28Talk) {e x:Law28exchange} {n:Nat} {K:AV El→List (AObj El)→Prop} (hn:n≤1000) (hp:decide ((0:Int) < (↑n:Int))= true) (hg:goes0 e=true) (hI:I (dX0 f2 e)) (hx:dX0 f2 e=x) (hK:K (.tup []) (exHA ft (arr0F f2 n e))):
  ∃x':Nat×Law28exchange,arr0.hd ft f2 x (IntKind.wrap IntKind.i64 ((↑n:Int) - (1:Int)))= arr0.hd ft f2 x'.2 (↑x'.1:Int)∧x'.1 < n∧(I x'.2∧x'.1≤1000)∧K (.tup []) (exHA ft (arr0F f2 x'.1 x'.2)):= by
 cases n with
 | zero=>cases hp
 | succ m =>
  subst hx
  rw [arr0F_step hg] at hK
  refine ⟨(m,dX0 f2 e), ?_,Nat.lt_succ_self m,⟨hI,Nat.le_of_succ_le hn⟩,hK⟩
  rw [wi64 _ (by omega) (by omega)]
  have:(↑(m+1): Int) - 1 = ↑m:=by omega
  rw [this]
theorem arr0.ex (ft:Law28Talk) {f2:Law28Talk} {e:Law28exchange} {n:Nat} {K:AV El→List (AObj El)→Prop} (hK:K (.tup []) (exHA ft (arr0F f2 n e))) (h:(bif decide ((0:Int) < (↑n:Int)) then goes0 e else false)= false): K (.tup []) (exHA ft e):= by
 rw [arr0F_stop h] at hK
 exact hK
def arr0.nf (ft f2:Law28Talk) (e:Law28exchange) (nn:Int) (K:AV El→List (AObj El)→Prop): Prop:=evCode ((mkCxV Try.prog S tab_procDue 102 lwV [8])) (evFunT ((mkCxV Try.prog S tab_procDue 102 lwV [8])) rPutC 3) (.loop (loopB Try.prog 58 [true,false])) ({lo:=2,slots:=[(5, .ref 6 0),(0, .ref 1 0),(1, .agg (Law28Talk.cells f2)),(2, .v (.int .i64 (0))),(3, .v (.int .i64 (nn)))],n:=142,objs:=[.cells (Law28Talk.cells ft), .cells [.v (.int .i64 (e.sides_0.Role)), .v (.int .i64 (e.sides_0.Own)), .v (.int .i64 (e.sides_0.Since)), .sl 28 (e.sides_0.Waiting:List (El 28)) false, .v (.int .i64 (e.sides_0.Other)), .v (.int .i64 (e.sides_0.OtherTime)), .sl 59 (e.sides_0.Pending:List (El 59)) false, .v (.bool (e.sides_0.Told)), .v (.int .u64 (e.sides_0.Features)), .v (.int .u64 (e.sides_0.Common)), .v (.bool (e.sides_0.Known)), .v (.bool (e.sides_0.VersionTx)), .v (.int .i64 (e.sides_0.Version)), .v (.int .i64 (e.sides_0.Length)), .v (.int .i64 (e.sides_0.Limit)), .v (.int .u64 (e.sides_0.Salt)), .v (.int .u64 (e.sides_0.Peer)), .v (.int .u64 (e.sides_0.Mark)), .v (.int .i64 (e.sides_0.Crypt)), .v (.int .i64 (e.sides_0.Ended)), .v (.int .i64 (e.sides_1.Role)), .v (.int .i64 (e.sides_1.Own)), .v (.int .i64 (e.sides_1.Since)), .sl 28 (e.sides_1.Waiting:List (El 28)) false, .v (.int .i64 (e.sides_1.Other)), .v (.int .i64 (e.sides_1.OtherTime)), .sl 59 (e.sides_1.Pending:List (El 59)) false, .v (.bool (e.sides_1.Told)), .v (.int .u64 (e.sides_1.Features)), .v (.int .u64 (e.sides_1.Common)), .v (.bool (e.sides_1.Known)), .v (.bool (e.sides_1.VersionTx)), .v (.int .i64 (e.sides_1.Version)), .v (.int .i64 (e.sides_1.Length)), .v (.int .i64 (e.sides_1.Limit)), .v (.int .u64 (e.sides_1.Salt)), .v (.int .u64 (e.sides_1.Peer)), .v (.int .u64 (e.sides_1.Mark)), .v (.int .i64 (e.sides_1.Crypt)), .v (.int .i64 (e.sides_1.Ended)), .gs 2, .gs 3, .gs 4, .gs 5, .v (.int .i64 (e.versions_0)), .v (.int .i64 (e.versions_1)), .v (.int .u16 (e.event)), .v (.int .i64 (e.now))], .row 28 (e.queues_0:List (El 28)), .row 28 (e.queues_1:List (El 28)), .row 78 (e.done_0:List (El 78)), .row 78 (e.done_1:List (El 78)), .cells (Law28Talk.cells f2)]}) (loopT ((mkCxV Try.prog S tab_procDue 102 lwV [8])) rPutC 3 58 [true,false] 2 K)
theorem arr0.nf_ok (ft f2:Law28Talk) (e:Law28exchange) (nn:Int) (K:AV El→List (AObj El)→Prop): evFunT ((mkCxV Try.prog S tab_procDue 102 lwV [8])) rPutC 4 58 [.ref 1 0,Law28Talk.av f2, .v (.int .i64 0), .v (.int .i64 nn)] (exHA ft e) K=arr0.nf ft f2 e nn K:=by kernel_rfl
theorem arr0.ok (ft f2:Law28Talk) (I:Law28exchange→Prop) (hI : ∀e,I e→goes0 e=true→DlvH0 f2 e∧I (dX0 f2 e)) (e:Law28exchange) (h:I e) (n:Nat) (hn:n≤1000) (K:AV El→List (AObj El)→Prop) (hK:K (.tup []) (exHA ft (arr0F f2 n e))): evFunT ((mkCxV Try.prog S tab_procDue 102 lwV [8])) rPutC 4 58 [.ref 1 0,Law28Talk.av f2, .v (.int .i64 0), .v (.int .i64 (↑n:Int))] (exHA ft e) K:=by
 refine (arr0.nf_ok ft f2 e (↑n:Int) K).mpr ?_
 refine loop_ev (by kernel_rfl) (evFunT_mono _ rPutC_mono _) [5,0,2,3] [] (X:=Nat×Law28exchange) (fun x=>arr0.hd ft f2 x.2 (↑x.1:Int)) (fun x=>x.1) (fun x=>(I x.2∧x.1≤1000)∧K (.tup []) (exHA ft (arr0F f2 x.1 x.2))) (n,e) ⟨by kernel_rfl,by kernel_rfl⟩ ⟨⟨h,hn⟩,hK⟩ ?_
 clear hK hn h
 rintro ⟨n,e⟩ ⟨⟨h,hn⟩,hK⟩
 dsimp only at h hn hK
 refine (arr0.st_ok ft f2 e (↑n:Int) _ _).mpr ?_
 unfold arr0.st
 iterate 4 refine ⟨⟨o3_ok _⟩, ?_⟩
 refine ⟨⟨fun _=>by decide⟩, ?_⟩
 iterate 3 refine ⟨⟨o3_ok _⟩, ?_⟩
 refine ⟨⟨o2_ok _⟩, ?_⟩
 refine cond_case (fun hb0=>?_) (fun hb0=>?_)
 ·refine ⟨⟨hb0⟩, ?_⟩
  refine ⟨⟨by decide⟩, ?_⟩
  iterate 3 refine ⟨⟨o3_ok _⟩, ?_⟩
  refine ⟨⟨fun _=>by decide⟩, ?_⟩
  iterate 3 refine ⟨⟨o3_ok _⟩, ?_⟩
  refine ⟨⟨on_ok _⟩, ?_⟩
  refine ⟨⟨o2_ok _⟩, ?_⟩
  refine cond_case (fun hb1=>?_) (fun hb1=>?_)
  ·have hg:=arrA.g hb1
   have hq:0 < List.length e.queues_0:=arrA.q hb0
   obtain ⟨hD,hI2⟩:= hI e h hg.2
   refine ⟨⟨by decide⟩, ?_⟩
   refine ⟨⟨arrA.i0 hq⟩, ?_⟩
   refine ⟨⟨arrA.i1 hq⟩, ?_⟩
   refine ⟨⟨by decide⟩, ?_⟩
   refine ⟨⟨arrA.i2 hq⟩, ?_⟩
   refine ⟨⟨by decide⟩, ?_⟩
   refine ⟨⟨by decide⟩, ?_⟩
   refine ⟨⟨hD.w1⟩, ?_⟩
   refine ⟨⟨by decide⟩, ?_⟩
   refine ⟨⟨hD.q1⟩, ?_⟩
   intro _
   refine cond_case (fun hb2=>?_) (fun hb2=>?_)
   ·refine ⟨⟨⟨Int.le_refl _,of_decide_eq_true hb2⟩⟩, ?_⟩
    refine cond_case (fun hb3=>?_) (fun hb3=>?_)
    ·refine ⟨⟨by decide⟩, ?_⟩
     refine ⟨⟨hD.w2⟩, ?_⟩
     refine ⟨⟨by decide⟩, ?_⟩
     refine ⟨⟨hD.q2⟩, ?_⟩
     intro _
     refine cond_case (fun hb4=>?_) (fun hb4=>?_)
     ·exfalso;exact arrA.a (show (aD0 e).2.2.length≤1 from hD.l1) hb4
     ·refine ⟨⟨by decide⟩, ?_⟩
      refine ⟨⟨hD.w3⟩, ?_⟩
      refine ⟨⟨by decide⟩, ?_⟩
      exact arr0.nx I ft f2 hn hg.1 hg.2 hI2 (dX0_key hb2 hb3) hK
    ·intro _
     refine cond_case (fun hb4=>?_) (fun hb4=>?_)
     ·exfalso;exact arrA.a (show (aD0 e).2.2.length≤1 from hD.l1) hb4
     ·refine ⟨⟨by decide⟩, ?_⟩
      refine ⟨⟨hD.w3⟩, ?_⟩
      refine ⟨⟨by decide⟩, ?_⟩
      exact arr0.nx I ft f2 hn hg.1 hg.2 hI2 (dX0_no hb2 hb3) hK
   ·refine ⟨⟨by decide⟩, ?_⟩
    refine ⟨⟨hD.w3⟩, ?_⟩
    refine ⟨⟨by decide⟩, ?_⟩
    exact arr0.nx I ft f2 hn hg.1 hg.2 hI2 (dX0_nil hb2) hK
  ·exact arr0.ex ft hK (arrA.c1 hb1)
 ·refine ⟨⟨o3_ok _⟩, ?_⟩
  refine ⟨⟨o2_ok _⟩, ?_⟩
  refine cond_case (fun hb1=>?_) (fun hb1=>?_)
  ·exfalso;rw [hb0] at hb1;cases hb1
  ·exact arr0.ex ft hK (arrA.c0 hb0)
end Go.Aw.W
