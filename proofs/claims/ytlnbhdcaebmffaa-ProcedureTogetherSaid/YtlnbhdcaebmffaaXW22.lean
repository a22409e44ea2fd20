/- Contracts of the seat (printed by ct.py). -/
import Derived.Test.YtlnbhdcaebmffaaXW21
set_option linter.unusedVariables false
set_option linter.unusedSimpArgs false
set_option maxRecDepth 20000
set_option maxHeartbeats 1000000
namespace Go.Aw.W
open Go Go.Aw Go.Proofs
attribute [local irreducible] evCode evFun evOps evDs evOne ctxK loopK loopB subC bodyC headS okH roundK
attribute [local irreducible] cCheck procStart procHandle procReady procDue loopL
def aC1 (e:Law28exchange): Control:=List.getD e.queues_1 (Int.toNat (0:Int)) Control.zero
def aD1 (e:Law28exchange): Procs×List Control×List Indication:=procHandle e.sides_0 (aC1 e) e.event e.now
def aX1 (e:Law28exchange): Law28exchange:=putC0F {e with sides_0:=(aD1 e).1,queues_1:=List.drop (Int.toNat (1:Int)) e.queues_1} (aD1 e).2.1
def aA1 (f2:Law28Talk) (e:Law28exchange): Procs×List Control:=procAnswer (aD1 e).1 f2.Found f2.Salt
def aY1 (f2:Law28Talk) (e:Law28exchange): Law28exchange:=putC0F {aX1 e with sides_0:=(aA1 f2 e).1} (aA1 f2 e).2
def aF1 (e x:Law28exchange): Law28exchange:={x with sides_1:=(procSent e.sides_1 (aC1 e)).1}
def dX1 (f2:Law28Talk) (e:Law28exchange): Law28exchange:=aF1 e (match (aD1 e).2.2 with
 | []=> aX1 e
 | i::_=>cond (i.Kind==(8:Int)) (aY1 f2 e) (aX1 e))
theorem dX1_nil {f2:Law28Talk} {e:Law28exchange} (h:decide ((0:Int) < (↑(List.length (aD1 e).2.2): Int))= false): dX1 f2 e=aF1 e (aX1 e):= by
 unfold dX1
 cases hl:(aD1 e).2.2 with
 | nil=>rfl
 | cons i l=>rw [hl] at h;simp only [List.length_cons,decide_eq_false_iff_not] at h;omega
theorem dX1_no {f2:Law28Talk} {e:Law28exchange} (h:decide ((0:Int) < (↑(List.length (aD1 e).2.2): Int))= true) (h2:((List.getD (aD1 e).2.2 (Int.toNat (0:Int)) Indication.zero).Kind==(8:Int))= false): dX1 f2 e=aF1 e (aX1 e):= by
 unfold dX1
 cases hl:(aD1 e).2.2 with
 | nil=>rfl
 | cons i l=>rw [hl] at h2;have h2:(i.Kind==(8:Int))= false:=h2;dsimp only;rw [h2,cond_false]
theorem dX1_key {f2:Law28Talk} {e:Law28exchange} (h:decide ((0:Int) < (↑(List.length (aD1 e).2.2): Int))= true) (h2:((List.getD (aD1 e).2.2 (Int.toNat (0:Int)) Indication.zero).Kind==(8:Int))= true): dX1 f2 e=aF1 e (aY1 f2 e):= by
 unfold dX1
 cases hl:(aD1 e).2.2 with
 | nil=>rw [hl] at h;cases h
 | cons i l=>rw [hl] at h2;have h2:(i.Kind==(8:Int))= true:=h2;dsimp only;rw [h2,cond_true]
def goes1 (e:Law28exchange): Bool:=bif decide ((0:Int) < (↑(List.length e.queues_1): Int)) then !(bif e.sides_0.Ended != (0:Int) then true else e.sides_1.Ended != (0:Int)) else false
def arr1F (f2:Law28Talk): Nat→Law28exchange→Law28exchange
 | 0,e=>e
 | n+1,e=>cond (goes1 e) (arr1F f2 n (dX1 f2 e)) e
theorem arr1F_stop {f2:Law28Talk} {n:Nat} {e:Law28exchange} (h:(bif decide ((0:Int) < (↑n:Int)) then goes1 e else false)= false): arr1F f2 n e=e:=by
 cases n with
 | zero=>rfl
 | succ n =>
  have h0:decide ((0:Int) < (↑(n+1): Int))= true:=by simp only [decide_eq_true_eq];omega
  rw [h0,cond_true] at h
  unfold arr1F
  rw [h];rfl
theorem arr1F_step {f2:Law28Talk} {n:Nat} {e:Law28exchange} (h:goes1 e=true): arr1F f2 (n+1) e=arr1F f2 n (dX1 f2 e):= by
 conv=>lhs;unfold arr1F
 rw [h];rfl
structure DlvH1 (f2:Law28Talk) (e:Law28exchange): Prop where
 w1:e.sides_0.Waiting.length≤1000∧e.sides_0.Pending.length≤1000
 l1:(aD1 e).2.2.length≤1
 q1:e.queues_0.length+(aD1 e).2.1.length≤1000000
 w2:(aD1 e).1.Waiting.length≤1000∧(aD1 e).1.Pending.length≤1000
 q2:(e.queues_0 ++ (aD1 e).2.1).length+(aA1 f2 e).2.length≤1000000
 w3:e.sides_1.Waiting.length≤1000∧e.sides_1.Pending.length≤1000
def arr1.e0 (f2:Law28Talk) (e:Law28exchange): Procs×List Control×List Indication:=procHandle e.sides_0 (List.getD e.queues_1 (Int.toNat (0:Int)) Control.zero) e.event e.now
def arr1.e1 (f2:Law28Talk) (e:Law28exchange): Law28exchange:=putC0F {sides_0:=(arr1.e0 f2 e).fst,sides_1:=e.sides_1,queues_0:=e.queues_0,queues_1:=List.drop (Int.toNat 1) e.queues_1,done_0:=e.done_0,done_1:=e.done_1,versions_0:=e.versions_0,versions_1:=e.versions_1,event:=e.event,now:=e.now:Law28exchange} (arr1.e0 f2 e).snd.fst
def arr1.e2 (f2:Law28Talk) (e:Law28exchange): Procs×List Control:=procAnswer (arr1.e1 f2 e).sides_0 f2.Found f2.Salt
def arr1.e3 (f2:Law28Talk) (e:Law28exchange): Law28exchange:=putC0F {sides_0:=(arr1.e2 f2 e).fst,sides_1:=(arr1.e1 f2 e).sides_1,queues_0:=(arr1.e1 f2 e).queues_0,queues_1:=(arr1.e1 f2 e).queues_1,done_0:=(arr1.e1 f2 e).done_0,done_1:=(arr1.e1 f2 e).done_1,versions_0:=(arr1.e1 f2 e).versions_0,versions_1:=(arr1.e1 f2 e).versions_1,event:=(arr1.e1 f2 e).event,now:=(arr1.e1 f2 e).now:Law28exchange} (arr1.e2 f2 e).snd
def arr1.e4 (f2:Law28Talk) (e:Law28exchange): Procs×List Control:=procAnswer (arr1.e3 f2 e).sides_0 f2.Found f2.Salt
def arr1.e5 (f2:Law28Talk) (e:Law28exchange): Procs×List Indication:=procSent (arr1.e3 f2 e).sides_1 (List.getD e.queues_1 (Int.toNat (0:Int)) Control.zero)
def arr1.e6 (f2:Law28Talk) (e:Law28exchange): Procs×List Indication:=procSent (arr1.e1 f2 e).sides_1 (List.getD e.queues_1 (Int.toNat (0:Int)) Control.zero)
def arr1.hd (ft f2:Law28Talk) (e:Law28exchange) (nn:Int): St El:={lo:=2,slots:=[(5, .ref 2 0),(0, .ref 1 0),(2, .v (.int .i64 1)),(3, .v (.int .i64 nn))],n:=142,objs:=exHB ft f2 e}
def arr1.st (ft f2:Law28Talk) (e:Law28exchange) (nn:Int) (J:St El→Prop) (K:AV El→List (AObj El)→Prop): Prop:=Ob (o3 (decide (0 < nn)))∧(Ob (o3 (decide (0 < nn)))∧(Ob (o3 (decide (0 < nn)))∧(Ob (o3 (decide (0 < nn)))∧(Ob (decide (0 < nn)= true→(0:Int)≤(1:Int)∧1 < (↑(2:Nat): Int))∧(Ob (o3 (decide (0 < nn)))∧(Ob (o3 (decide (0 < nn)))∧(Ob (o3 (decide (0 < nn)))∧(Ob (o2 (decide (0 < nn)))∧(cond (bif decide (0 < nn) then decide (0 < (↑(List.length e.queues_1): Int)) else false) (Ob ((bif decide (0 < nn) then decide (0 < (↑(List.length e.queues_1): Int)) else false)= true)∧(Ob ((0:Int)≤(0:Int)∧0 < (↑(2:Nat): Int))∧(Ob (o3 (!e.sides_0.Ended != 0))∧(Ob (o3 (!e.sides_0.Ended != 0))∧(Ob (o3 (!e.sides_0.Ended != 0))∧(Ob ((!e.sides_0.Ended != 0)= true→(0:Int)≤(1:Int)∧1 < (↑(2:Nat): Int))∧(Ob (o3 (!e.sides_0.Ended != 0))∧(Ob (o3 (!e.sides_0.Ended != 0))∧(Ob (o3 (!e.sides_0.Ended != 0))∧(Ob (on (e.sides_0.Ended != 0))∧(Ob (o2 (bif decide (0 < nn) then decide (0 < (↑(List.length e.queues_1): Int)) else false))∧(cond (bif bif decide (0 < nn) then decide (0 < (↑(List.length e.queues_1): Int)) else false then !bif e.sides_0.Ended != 0 then true else e.sides_1.Ended != 0 else false) (Ob ((0:Int)≤(1:Int)∧1 < (↑(2:Nat): Int))∧(Ob ((0:Int)≤(0:Int)∧0 < (↑(List.length e.queues_1): Int))∧(Ob (Int.toNat 0 < List.length e.queues_1)∧(Ob ((0:Int)≤(1:Int)∧1 < (↑(2:Nat): Int))∧(Ob ((0:Int)≤(1:Int)∧1≤(↑(List.length e.queues_1): Int))∧(Ob ((0:Int)≤(1:Int)∧1 < (↑(2:Nat): Int))∧(Ob (0≤IntKind.wrap IntKind.i64 ((1:Int) - (1:Int))∧IntKind.wrap IntKind.i64 ((1:Int) - (1:Int)) < (↑(2:Nat): Int))∧(Ob (List.length e.sides_0.Waiting≤(1000:Nat)∧List.length e.sides_0.Pending≤(1000:Nat))∧(Ob (0≤IntKind.wrap IntKind.i64 ((1:Int) - (1:Int))∧IntKind.wrap IntKind.i64 ((1:Int) - (1:Int)) < (↑(2:Nat): Int))∧(Ob (putC0.hyp {sides_0:=(arr1.e0 f2 e).fst,sides_1:=e.sides_1,queues_0:=e.queues_0,queues_1:=List.drop (Int.toNat 1) e.queues_1,done_0:=e.done_0,done_1:=e.done_1,versions_0:=e.versions_0,versions_1:=e.versions_1,event:=e.event,now:=e.now:Law28exchange} (arr1.e0 f2 e).snd.fst)∧((List.length (arr1.e0 f2 e).snd.snd≤(9223372036854775807:Nat))→(cond (decide (0 < (↑(List.length (arr1.e0 f2 e).snd.snd): Int))) (Ob ((0:Int)≤(0:Int)∧0 < (↑(List.length (arr1.e0 f2 e).snd.snd): Int))∧(cond ((List.getD (arr1.e0 f2 e).snd.snd (Int.toNat 0) Indication.zero).Kind==8) (Ob (0≤IntKind.wrap IntKind.i64 ((1:Int) - (1:Int))∧IntKind.wrap IntKind.i64 ((1:Int) - (1:Int)) < (↑(2:Nat): Int))∧(Ob (List.length (arr1.e1 f2 e).sides_0.Waiting≤(1000:Nat)∧List.length (arr1.e1 f2 e).sides_0.Pending≤(1000:Nat))∧(Ob (0≤IntKind.wrap IntKind.i64 ((1:Int) - (1:Int))∧IntKind.wrap IntKind.i64 ((1:Int) - (1:Int)) < (↑(2:Nat): Int))∧(Ob (putC0.hyp {sides_0:=(arr1.e2 f2 e).fst,sides_1:=(arr1.e1 f2 e).sides_1,queues_0:=(arr1.e1 f2 e).queues_0,queues_1:=(arr1.e1 f2 e).queues_1,done_0:=(arr1.e1 f2 e).done_0,done_1:=(arr1.e1 f2 e).done_1,versions_0:=(arr1.e1 f2 e).versions_0,versions_1:=(arr1.e1 f2 e).versions_1,event:=(arr1.e1 f2 e).event,now:=(arr1.e1 f2 e).now:Law28exchange} (arr1.e2 f2 e).snd)∧((List.length (arr1.e0 f2 e).snd.snd≤(9223372036854775807:Nat))→(cond (decide (IntKind.wrap IntKind.i64 ((0:Int)+ (1:Int)) < (↑(List.length (arr1.e0 f2 e).snd.snd): Int))) (Ob (0≤IntKind.wrap IntKind.i64 ((0:Int)+ (1:Int))∧IntKind.wrap IntKind.i64 ((0:Int)+ (1:Int)) < (↑(List.length (arr1.e0 f2 e).snd.snd): Int))∧(cond ((List.getD (arr1.e0 f2 e).snd.snd (Int.toNat (IntKind.wrap IntKind.i64 ((0:Int)+ (1:Int)))) Indication.zero).Kind==8) (Ob (0≤IntKind.wrap IntKind.i64 ((1:Int) - (1:Int))∧IntKind.wrap IntKind.i64 ((1:Int) - (1:Int)) < (↑(2:Nat): Int))∧(Ob (List.length (arr1.e3 f2 e).sides_0.Waiting≤(1000:Nat)∧List.length (arr1.e3 f2 e).sides_0.Pending≤(1000:Nat))∧(Ob (0≤IntKind.wrap IntKind.i64 ((1:Int) - (1:Int))∧IntKind.wrap IntKind.i64 ((1:Int) - (1:Int)) < (↑(2:Nat): Int))∧(Ob (putC0.hyp {sides_0:=(arr1.e4 f2 e).fst,sides_1:=(arr1.e3 f2 e).sides_1,queues_0:=(arr1.e3 f2 e).queues_0,queues_1:=(arr1.e3 f2 e).queues_1,done_0:=(arr1.e3 f2 e).done_0,done_1:=(arr1.e3 f2 e).done_1,versions_0:=(arr1.e3 f2 e).versions_0,versions_1:=(arr1.e3 f2 e).versions_1,event:=(arr1.e3 f2 e).event,now:=(arr1.e3 f2 e).now:Law28exchange} (arr1.e4 f2 e).snd)∧(False))))) (False))) (Ob ((0:Int)≤(1:Int)∧1 < (↑(2:Nat): Int))∧(Ob (List.length (arr1.e3 f2 e).sides_1.Waiting≤(1000:Nat)∧List.length (arr1.e3 f2 e).sides_1.Pending≤(1000:Nat))∧(Ob ((0:Int)≤(1:Int)∧1 < (↑(2:Nat): Int))∧(J (arr1.hd ft f2 (aF1 e (aY1 f2 e)) (IntKind.wrap IntKind.i64 (nn - 1))))))))))))) ((List.length (arr1.e0 f2 e).snd.snd≤(9223372036854775807:Nat))→(cond (decide (IntKind.wrap IntKind.i64 ((0:Int)+ (1:Int)) < (↑(List.length (arr1.e0 f2 e).snd.snd): Int))) (Ob (0≤IntKind.wrap IntKind.i64 ((0:Int)+ (1:Int))∧IntKind.wrap IntKind.i64 ((0:Int)+ (1:Int)) < (↑(List.length (arr1.e0 f2 e).snd.snd): Int))∧(cond ((List.getD (arr1.e0 f2 e).snd.snd (Int.toNat (IntKind.wrap IntKind.i64 ((0:Int)+ (1:Int)))) Indication.zero).Kind==8) (Ob (0≤IntKind.wrap IntKind.i64 ((1:Int) - (1:Int))∧IntKind.wrap IntKind.i64 ((1:Int) - (1:Int)) < (↑(2:Nat): Int))∧(Ob (List.length (arr1.e1 f2 e).sides_0.Waiting≤(1000:Nat)∧List.length (arr1.e1 f2 e).sides_0.Pending≤(1000:Nat))∧(Ob (0≤IntKind.wrap IntKind.i64 ((1:Int) - (1:Int))∧IntKind.wrap IntKind.i64 ((1:Int) - (1:Int)) < (↑(2:Nat): Int))∧(Ob (putC0.hyp {sides_0:=(arr1.e2 f2 e).fst,sides_1:=(arr1.e1 f2 e).sides_1,queues_0:=(arr1.e1 f2 e).queues_0,queues_1:=(arr1.e1 f2 e).queues_1,done_0:=(arr1.e1 f2 e).done_0,done_1:=(arr1.e1 f2 e).done_1,versions_0:=(arr1.e1 f2 e).versions_0,versions_1:=(arr1.e1 f2 e).versions_1,event:=(arr1.e1 f2 e).event,now:=(arr1.e1 f2 e).now:Law28exchange} (arr1.e2 f2 e).snd)∧(False))))) (False))) (Ob ((0:Int)≤(1:Int)∧1 < (↑(2:Nat): Int))∧(Ob (List.length (arr1.e1 f2 e).sides_1.Waiting≤(1000:Nat)∧List.length (arr1.e1 f2 e).sides_1.Pending≤(1000:Nat))∧(Ob ((0:Int)≤(1:Int)∧1 < (↑(2:Nat): Int))∧(J (arr1.hd ft f2 (aF1 e (aX1 e)) (IntKind.wrap IntKind.i64 (nn - 1))))))))))) (Ob ((0:Int)≤(1:Int)∧1 < (↑(2:Nat): Int))∧(Ob (List.length (arr1.e1 f2 e).sides_1.Waiting≤(1000:Nat)∧List.length (arr1.e1 f2 e).sides_1.Pending≤(1000:Nat))∧(Ob ((0:Int)≤(1:Int)∧1 < (↑(2:Nat): Int))∧(J (arr1.hd ft f2 (aF1 e (aX1 e)) (IntKind.wrap IntKind.i64 (nn - 1))))))))))))))))))) (K (.tup []) (exHA ft e)))))))))))))) (Ob (o3 (bif decide (0 < nn) then decide (0 < (↑(List.length e.queues_1): Int)) else false))∧(Ob (o2 (bif decide (0 < nn) then decide (0 < (↑(List.length e.queues_1): Int)) else false))∧(cond (bif bif decide (0 < nn) then decide (0 < (↑(List.length e.queues_1): Int)) else false then true else false) (Ob ((0:Int)≤(1:Int)∧1 < (↑(2:Nat): Int))∧(Ob ((0:Int)≤(0:Int)∧0 < (↑(List.length e.queues_1): Int))∧(Ob (Int.toNat 0 < List.length e.queues_1)∧(Ob ((0:Int)≤(1:Int)∧1 < (↑(2:Nat): Int))∧(Ob ((0:Int)≤(1:Int)∧1≤(↑(List.length e.queues_1): Int))∧(Ob ((0:Int)≤(1:Int)∧1 < (↑(2:Nat): Int))∧(Ob (0≤IntKind.wrap IntKind.i64 ((1:Int) - (1:Int))∧IntKind.wrap IntKind.i64 ((1:Int) - (1:Int)) < (↑(2:Nat): Int))∧(Ob (List.length e.sides_0.Waiting≤(1000:Nat)∧List.length e.sides_0.Pending≤(1000:Nat))∧(Ob (0≤IntKind.wrap IntKind.i64 ((1:Int) - (1:Int))∧IntKind.wrap IntKind.i64 ((1:Int) - (1:Int)) < (↑(2:Nat): Int))∧(Ob (putC0.hyp {sides_0:=(arr1.e0 f2 e).fst,sides_1:=e.sides_1,queues_0:=e.queues_0,queues_1:=List.drop (Int.toNat 1) e.queues_1,done_0:=e.done_0,done_1:=e.done_1,versions_0:=e.versions_0,versions_1:=e.versions_1,event:=e.event,now:=e.now:Law28exchange} (arr1.e0 f2 e).snd.fst)∧((List.length (arr1.e0 f2 e).snd.snd≤(9223372036854775807:Nat))→(cond (decide (0 < (↑(List.length (arr1.e0 f2 e).snd.snd): Int))) (Ob ((0:Int)≤(0:Int)∧0 < (↑(List.length (arr1.e0 f2 e).snd.snd): Int))∧(cond ((List.getD (arr1.e0 f2 e).snd.snd (Int.toNat 0) Indication.zero).Kind==8) (Ob (0≤IntKind.wrap IntKind.i64 ((1:Int) - (1:Int))∧IntKind.wrap IntKind.i64 ((1:Int) - (1:Int)) < (↑(2:Nat): Int))∧(Ob (List.length (arr1.e1 f2 e).sides_0.Waiting≤(1000:Nat)∧List.length (arr1.e1 f2 e).sides_0.Pending≤(1000:Nat))∧(Ob (0≤IntKind.wrap IntKind.i64 ((1:Int) - (1:Int))∧IntKind.wrap IntKind.i64 ((1:Int) - (1:Int)) < (↑(2:Nat): Int))∧(Ob (putC0.hyp {sides_0:=(arr1.e2 f2 e).fst,sides_1:=(arr1.e1 f2 e).sides_1,queues_0:=(arr1.e1 f2 e).queues_0,queues_1:=(arr1.e1 f2 e).queues_1,done_0:=(arr1.e1 f2 e).done_0,done_1:=(arr1.e1 f2 e).done_1,versions_0:=(arr1.e1 f2 e).versions_0,versions_1:=(arr1.e1 f2 e).versions_1,event:=(arr1.e1 f2 e).event,now:=(arr1.e1 f2 e).now:Law28exchange} (arr1.e2 f2 e).snd)∧((List.length (arr1.e0 f2 e).snd.snd≤(9223372036854775807:Nat))→(cond (decide (IntKind.wrap IntKind.i64 ((0:Int)+ (1:Int)) < (↑(List.length (arr1.e0 f2 e).snd.snd): Int))) (Ob (0≤IntKind.wrap IntKind.i64 ((0:Int)+ (1:Int))∧IntKind.wrap IntKind.i64 ((0:Int)+ (1:Int)) < (↑(List.length (arr1.e0 f2 e).snd.snd): Int))∧(cond ((List.getD (arr1.e0 f2 e).snd.snd (Int.toNat (IntKind.wrap IntKind.i64 ((0:Int)+ (1:Int)))) Indication.zero).Kind==8) (Ob (0≤IntKind.wrap IntKind.i64 ((1:Int) - (1:Int))∧IntKind.wrap IntKind.i64 ((1:Int) - (1:Int)) < (↑(2:Nat): Int))∧(Ob (List.length (arr1.e3 f2 e).sides_0.Waiting≤(1000:Nat)∧List.length (arr1.e3 f2 e).sides_0.Pending≤(1000:Nat))∧(Ob (0≤IntKind.wrap IntKind.i64 ((1:Int) - (1:Int))∧IntKind.wrap IntKind.i64 ((1:Int) - (1:Int)) < (↑(2:Nat): Int))∧(Ob (putC0.hyp {sides_0:=(arr1.e4 f2 e).fst,sides_1:=(arr1.e3 f2 e).sides_1,queues_0:=(arr1.e3 f2 e).queues_0,queues_1:=(arr1.e3 f2 e).queues_1,done_0:=(arr1.e3 f2 e).done_0,done_1:=(arr1.e3 f2 e).done_1,versions_0:=(arr1.e3 f2 e).versions_0,versions_1:=(arr1.e3 f2 e).versions_1,event:=(arr1.e3 f2 e).event,now:=(arr1.e3 f2 e).now:Law28exchange} (arr1.e4 f2 e).snd)∧(False))))) (False))) (Ob ((0:Int)≤(1:Int)∧1 < (↑(2:Nat): Int))∧(Ob (List.length (arr1.e3 f2 e).sides_1.Waiting≤(1000:Nat)∧List.length (arr1.e3 f2 e).sides_1.Pending≤(1000:Nat))∧(Ob ((0:Int)≤(1:Int)∧1 < (↑(2:Nat): Int))∧(J (arr1.hd ft f2 (aF1 e (aY1 f2 e)) (IntKind.wrap IntKind.i64 (nn - 1))))))))))))) ((List.length (arr1.e0 f2 e).snd.snd≤(9223372036854775807:Nat))→(cond (decide (IntKind.wrap IntKind.i64 ((0:Int)+ (1:Int)) < (↑(List.length (arr1.e0 f2 e).snd.snd): Int))) (Ob (0≤IntKind.wrap IntKind.i64 ((0:Int)+ (1:Int))∧IntKind.wrap IntKind.i64 ((0:Int)+ (1:Int)) < (↑(List.length (arr1.e0 f2 e).snd.snd): Int))∧(cond ((List.getD (arr1.e0 f2 e).snd.snd (Int.toNat (IntKind.wrap IntKind.i64 ((0:Int)+ (1:Int)))) Indication.zero).Kind==8) (Ob (0≤IntKind.wrap IntKind.i64 ((1:Int) - (1:Int))∧IntKind.wrap IntKind.i64 ((1:Int) - (1:Int)) < (↑(2:Nat): Int))∧(Ob (List.length (arr1.e1 f2 e).sides_0.Waiting≤(1000:Nat)∧List.length (arr1.e1 f2 e).sides_0.Pending≤(1000:Nat))∧(Ob (0≤IntKind.wrap IntKind.i64 ((1:Int) - (1:Int))∧IntKind.wrap IntKind.i64 ((1:Int) - (1:Int)) < (↑(2:Nat): Int))∧(Ob (putC0.hyp {sides_0:=(arr1.e2 f2 e).fst,sides_1:=(arr1.e1 f2 e).sides_1,queues_0:=(arr1.e1 f2 e).queues_0,queues_1:=(arr1.e1 f2 e).queues_1,done_0:=(arr1.e1 f2 e).done_0,done_1:=(arr1.e1 f2 e).done_1,versions_0:=(arr1.e1 f2 e).versions_0,versions_1:=(arr1.e1 f2 e).versions_1,event:=(arr1.e1 f2 e).event,now:=(arr1.e1 f2 e).now:Law28exchange} (arr1.e2 f2 e).snd)∧(False))))) (False))) (Ob ((0:Int)≤(1:Int)∧1 < (↑(2:Nat): Int))∧(Ob (List.length (arr1.e1 f2 e).sides_1.Waiting≤(1000:Nat)∧List.length (arr1.e1 f2 e).sides_1.Pending≤(1000:Nat))∧(Ob ((0:Int)≤(1:Int)∧1 < (↑(2:Nat): Int))∧(J (arr1.hd ft f2 (aF1 e (aX1 e)) (IntKind.wrap IntKind.i64 (nn - 1))))))))))) (Ob ((0:Int)≤(1:Int)∧1 < (↑(2:Nat): Int))∧(Ob (List.length (arr1.e1 f2 e).sides_1.Waiting≤(1000:Nat)∧List.length (arr1.e1 f2 e).sides_1.Pending≤(1000:Nat))∧(Ob ((0:Int)≤(1:Int)∧1 < (↑(2:Nat): Int))∧(J (arr1.hd ft f2 (aF1 e (aX1 e)) (IntKind.wrap IntKind.i64 (nn - 1))))))))))))))))))) (K (.tup []) (exHA ft e))))))))))))))
theorem arr1.st_ok (ft f2:Law28Talk) (e:Law28exchange) (nn:Int) (J:St El→Prop) (K:AV El→List (AObj El)→Prop): evCode ((mkCxV Try.prog S tab_procDue 102 lwV [8])) (evFunT ((mkCxV Try.prog S tab_procDue 102 lwV [8])) rPutC 3) (loopB Try.prog 58 [true,false]) (arr1.hd ft f2 e nn) (roundK (C:=(mkCxV Try.prog S tab_procDue 102 lwV [8])) [5,0,2,3] [] J (loopT ((mkCxV Try.prog S tab_procDue 102 lwV [8])) rPutC 3 58 [true,false] 2 K))= arr1.st ft f2 e nn J K:=by kernel_rfl
theorem arr1.nx (I:Law28exchange→Prop) (ft f2:Law28Talk) {e x:Law28exchange} {n:Nat} {K:AV El→List (AObj El)→Prop} (hn:n≤1000) (hp:decide ((0:Int) < (↑n:Int))= true) (hg:goes1 e=true) (hI:I (dX1 f2 e)) (hx:dX1 f2 e=x) (hK:K (.tup []) (exHA ft (arr1F f2 n e))):
  ∃x':Nat×Law28exchange,arr1.hd ft f2 x (IntKind.wrap IntKind.i64 ((↑n:Int) - (1:Int)))= arr1.hd ft f2 x'.2 (↑x'.1:Int)∧x'.1 < n∧(I x'.2∧x'.1≤1000)∧K (.tup []) (exHA ft (arr1F f2 x'.1 x'.2)):= by
 cases n with
 | zero=>cases hp
 | succ m =>
  subst hx
  rw [arr1F_step hg] at hK
  refine ⟨(m,dX1 f2 e), ?_,Nat.lt_succ_self m,⟨hI,Nat.le_of_succ_le hn⟩,hK⟩
  rw [wi64 _ (by omega) (by omega)]
  have:(↑(m+1): Int) - 1 = ↑m:=by omega
  rw [this]
theorem arr1.ex (ft:Law28Talk) {f2:Law28Talk} {e:Law28exchange} {n:Nat} {K:AV El→List (AObj El)→Prop} (hK:K (.tup []) (exHA ft (arr1F f2 n e))) (h:(bif decide ((0:Int) < (↑n:Int)) then goes1 e else false)= false): K (.tup []) (exHA ft e):= by
 rw [arr1F_stop h] at hK
 exact hK
def arr1.nf (ft f2:Law28Talk) (e:Law28exchange) (nn:Int) (K:AV El→List (AObj El)→Prop): Prop:=evCode ((mkCxV Try.prog S tab_procDue 102 lwV [8])) (evFunT ((mkCxV Try.prog S tab_procDue 102 lwV [8])) rPutC 3) (.loop (loopB Try.prog 58 [true,false])) ({lo:=2,slots:=[(5, .ref 6 0),(0, .ref 1 0),(1, .agg (Law28Talk.cells f2)),(2, .v (.int .i64 (1))),(3, .v (.int .i64 (nn)))],n:=142,objs:=[.cells (Law28Talk.cells ft), .cells [.v (.int .i64 (e.sides_0.Role)), .v (.int .i64 (e.sides_0.Own)), .v (.int .i64 (e.sides_0.Since)), .sl 28 (e.sides_0.Waiting:List (El 28)) false, .v (.int .i64 (e.sides_0.Other)), .v (.int .i64 (e.sides_0.OtherTime)), .sl 59 (e.sides_0.Pending:List (El 59)) false, .v (.bool (e.sides_0.Told)), .v (.int .u64 (e.sides_0.Features)), .v (.int .u64 (e.sides_0.Common)), .v (.bool (e.sides_0.Known)), .v (.bool (e.sides_0.VersionTx)), .v (.int .i64 (e.sides_0.Version)), .v (.int .i64 (e.sides_0.Length)), .v (.int .i64 (e.sides_0.Limit)), .v (.int .u64 (e.sides_0.Salt)), .v (.int .u64 (e.sides_0.Peer)), .v (.int .u64 (e.sides_0.Mark)), .v (.int .i64 (e.sides_0.Crypt)), .v (.int .i64 (e.sides_0.Ended)), .v (.int .i64 (e.sides_1.Role)), .v (.int .i64 (e.sides_1.Own)), .v (.int .i64 (e.sides_1.Since)), .sl 28 (e.sides_1.Waiting:List (El 28)) false, .v (.int .i64 (e.sides_1.Other)), .v (.int .i64 (e.sides_1.OtherTime)), .sl 59 (e.sides_1.Pending:List (El 59)) false, .v (.bool (e.sides_1.Told)), .v (.int .u64 (e.sides_1.Features)), .v (.int .u64 (e.sides_1.Common)), .v (.bool (e.sides_1.Known)), .v (.bool (e.sides_1.VersionTx)), .v (.int .i64 (e.sides_1.Version)), .v (.int .i64 (e.sides_1.Length)), .v (.int .i64 (e.sides_1.Limit)), .v (.int .u64 (e.sides_1.Salt)), .v (.int .u64 (e.sides_1.Peer)), .v (.int .u64 (e.sides_1.Mark)), .v (.int .i64 (e.sides_1.Crypt)), .v (.int .i64 (e.sides_1.Ended)), .gs 2, .gs 3, .gs 4, .gs 5, .v (.int .i64 (e.versions_0)), .v (.int .i64 (e.versions_1)), .v (.int .u16 (e.event)), .v (.int .i64 (e.now))], .row 28 (e.queues_0:List (El 28)), .row 28 (e.queues_1:List (El 28)), .row 78 (e.done_0:List (El 78)), .row 78 (e.done_1:List (El 78)), .cells (Law28Talk.cells f2)]}) (loopT ((mkCxV Try.prog S tab_procDue 102 lwV [8])) rPutC 3 58 [true,false] 2 K)
theorem arr1.nf_ok (ft f2:Law28Talk) (e:Law28exchange) (nn:Int) (K:AV El→List (AObj El)→Prop): evFunT ((mkCxV Try.prog S tab_procDue 102 lwV [8])) rPutC 4 58 [.ref 1 0,Law28Talk.av f2, .v (.int .i64 1), .v (.int .i64 nn)] (exHA ft e) K=arr1.nf ft f2 e nn K:=by kernel_rfl
theorem arr1.ok (ft f2:Law28Talk) (I:Law28exchange→Prop) (hI : ∀e,I e→goes1 e=true→DlvH1 f2 e∧I (dX1 f2 e)) (e:Law28exchange) (h:I e) (n:Nat) (hn:n≤1000) (K:AV El→List (AObj El)→Prop) (hK:K (.tup []) (exHA ft (arr1F f2 n e))): evFunT ((mkCxV Try.prog S tab_procDue 102 lwV [8])) rPutC 4 58 [.ref 1 0,Law28Talk.av f2, .v (.int .i64 1), .v (.int .i64 (↑n:Int))] (exHA ft e) K:=by
 refine (arr1.nf_ok ft f2 e (↑n:Int) K).mpr ?_
 refine loop_ev (by kernel_rfl) (evFunT_mono _ rPutC_mono _) [5,0,2,3] [] (X:=Nat×Law28exchange) (fun x=>arr1.hd ft f2 x.2 (↑x.1:Int)) (fun x=>x.1) (fun x=>(I x.2∧x.1≤1000)∧K (.tup []) (exHA ft (arr1F f2 x.1 x.2))) (n,e) ⟨by kernel_rfl,by kernel_rfl⟩ ⟨⟨h,hn⟩,hK⟩ ?_
 clear hK hn h
 rintro ⟨n,e⟩ ⟨⟨h,hn⟩,hK⟩
 dsimp only at h hn hK
 refine (arr1.st_ok ft f2 e (↑n:Int) _ _).mpr ?_
 unfold arr1.st
 iterate 4 refine ⟨⟨o3_ok _⟩, ?_⟩
 refine ⟨⟨fun _=>by decide⟩, ?_⟩
 iterate 3 refine ⟨⟨o3_ok _⟩, ?_⟩
 refine ⟨⟨o2_ok _⟩, ?_⟩
 refine cond_case (fun hb0=>?_) (fun hb0=>?_)
 ·refine ⟨⟨hb0⟩, ?_⟩
  refine ⟨⟨by decide⟩, ?_⟩
  iterate 3 refine ⟨⟨o3_ok _⟩, ?_⟩
  refine ⟨⟨fun _=>by decide⟩, ?_⟩
  iterate 3 refine ⟨⟨o3_ok _⟩, ?_⟩
  refine ⟨⟨on_ok _⟩, ?_⟩
  refine ⟨⟨o2_ok _⟩, ?_⟩
  refine cond_case (fun hb1=>?_) (fun hb1=>?_)
  ·have hg:=arrA.g hb1
   have hq:0 < List.length e.queues_1:=arrA.q hb0
   obtain ⟨hD,hI2⟩:= hI e h hg.2
   refine ⟨⟨by decide⟩, ?_⟩
   refine ⟨⟨arrA.i0 hq⟩, ?_⟩
   refine ⟨⟨arrA.i1 hq⟩, ?_⟩
   refine ⟨⟨by decide⟩, ?_⟩
   refine ⟨⟨arrA.i2 hq⟩, ?_⟩
   refine ⟨⟨by decide⟩, ?_⟩
   refine ⟨⟨by decide⟩, ?_⟩
   refine ⟨⟨hD.w1⟩, ?_⟩
   refine ⟨⟨by decide⟩, ?_⟩
   refine ⟨⟨hD.q1⟩, ?_⟩
   intro _
   refine cond_case (fun hb2=>?_) (fun hb2=>?_)
   ·refine ⟨⟨⟨Int.le_refl _,of_decide_eq_true hb2⟩⟩, ?_⟩
    refine cond_case (fun hb3=>?_) (fun hb3=>?_)
    ·refine ⟨⟨by decide⟩, ?_⟩
     refine ⟨⟨hD.w2⟩, ?_⟩
     refine ⟨⟨by decide⟩, ?_⟩
     refine ⟨⟨hD.q2⟩, ?_⟩
     intro _
     refine cond_case (fun hb4=>?_) (fun hb4=>?_)
     ·exfalso;exact arrA.a (show (aD1 e).2.2.length≤1 from hD.l1) hb4
     ·refine ⟨⟨by decide⟩, ?_⟩
      refine ⟨⟨hD.w3⟩, ?_⟩
      refine ⟨⟨by decide⟩, ?_⟩
      exact arr1.nx I ft f2 hn hg.1 hg.2 hI2 (dX1_key hb2 hb3) hK
    ·intro _
     refine cond_case (fun hb4=>?_) (fun hb4=>?_)
     ·exfalso;exact arrA.a (show (aD1 e).2.2.length≤1 from hD.l1) hb4
     ·refine ⟨⟨by decide⟩, ?_⟩
      refine ⟨⟨hD.w3⟩, ?_⟩
      refine ⟨⟨by decide⟩, ?_⟩
      exact arr1.nx I ft f2 hn hg.1 hg.2 hI2 (dX1_no hb2 hb3) hK
   ·refine ⟨⟨by decide⟩, ?_⟩
    refine ⟨⟨hD.w3⟩, ?_⟩
    refine ⟨⟨by decide⟩, ?_⟩
    exact arr1.nx I ft f2 hn hg.1 hg.2 hI2 (dX1_nil hb2) hK
  ·exact arr1.ex ft hK (arrA.c1 hb1)
 ·refine ⟨⟨o3_ok _⟩, ?_⟩
  refine ⟨⟨o2_ok _⟩, ?_⟩
  refine cond_case (fun hb1=>?_) (fun hb1=>?_)
  ·exfalso;rw [hb0] at hb1;cases hb1
  ·exact arr1.ex ft hK (arrA.c0 hb0)
end Go.Aw.W
