/- Contracts of the seat (printed by ct.py). -/
import Derived.Test.YtlnbhdcaebmffaaGreatXW21
set_option linter.unusedVariables false
set_option linter.unusedSimpArgs false
set_option maxRecDepth 20000
set_option maxHeartbeats 1000000
namespace Go.Aw.W
open Go Go.Aw Go.Proofs
attribute [local irreducible] evCode evFun evOps evDs evOne ctxK loopK loopB subC bodyC headS okH roundK
attribute [local irreducible] cCheck
theorem r27Due_nil (e:Int): r27Due [] e=([],[]):= by kernel_rfl
theorem r27Due_one (c:Change) (e:Int): r27Due [c] e=cond (r1Passed e c.Instant) ([],[c]) ([c],[]):= by
 have h:(List.getD [c] (Int.toNat (0:Int)) Change.zero)= c:=rfl
 unfold r27Due
 rw [h]
 cases r1Passed e c.Instant <;> exact (show (_:List Change×List Change)= _ by kernel_rfl)
theorem r27Due_le (l:List Change) (e:Int) (h:l.length≤1): (r27Due l e).1.length≤1∧(r27Due l e).2.length≤1:=by
 match l,h with
 | [],_=>rw [r27Due_nil];simp
 | [c],_=>rw [r27Due_one];cases r1Passed e c.Instant <;> simp
def r28Due.res (r:Procs×(List Change)): AV El:=.tup [Procs.av (r.1), .sl 55 (r.2:List (El 55)) false]
def r28Due.news (r:Procs×(List Change)): List (AObj El):= []
def r28Due.L (e v:Procs×(List Change)): Prop:=r28Due.res e=r28Due.res v∧r28Due.news e=r28Due.news v
def r28Due (s:Procs) (event:Int): Procs×(List Change):= cond (bif bif s.Role==0 then decide (0 < (↑(List.length (r27Due s.Pending event).snd): Int)) else false then !s.Told else false) (cond (s.Ended==0) ((({s with Pending:=(r27Due s.Pending event).fst,Ended:=40}: Procs),[])) ((({s with Pending:=(r27Due s.Pending event).fst}: Procs),[]))) (cond (decide (0 < (↑(List.length (r27Due s.Pending event).snd): Int))) (cond (s.Own==(List.getD (r27Due s.Pending event).snd (Int.toNat 0) Change.zero).Kind) (cond (s.Other==(List.getD (r27Due s.Pending event).snd (Int.toNat 0) Change.zero).Kind) (cond (decide (IntKind.wrap IntKind.i64 ((0:Int)+ (1:Int)) < (↑(List.length (r27Due s.Pending event).snd): Int))) (cond ((-1)== (List.getD (r27Due s.Pending event).snd (Int.toNat (IntKind.wrap IntKind.i64 ((0:Int)+ (1:Int)))) Change.zero).Kind) (cond ((-1)== (List.getD (r27Due s.Pending event).snd (Int.toNat (IntKind.wrap IntKind.i64 ((0:Int)+ (1:Int)))) Change.zero).Kind) ((Procs.zero,[])) ((Procs.zero,[]))) (cond ((-1)== (List.getD (r27Due s.Pending event).snd (Int.toNat (IntKind.wrap IntKind.i64 ((0:Int)+ (1:Int)))) Change.zero).Kind) ((Procs.zero,[])) ((Procs.zero,[])))) ((({s with Own:=(-1),Other:=(-1),Pending:=(r27Due s.Pending event).fst}: Procs),(r27Due s.Pending event).snd))) (cond (decide (IntKind.wrap IntKind.i64 ((0:Int)+ (1:Int)) < (↑(List.length (r27Due s.Pending event).snd): Int))) (cond ((-1)== (List.getD (r27Due s.Pending event).snd (Int.toNat (IntKind.wrap IntKind.i64 ((0:Int)+ (1:Int)))) Change.zero).Kind) (cond (s.Other==(List.getD (r27Due s.Pending event).snd (Int.toNat (IntKind.wrap IntKind.i64 ((0:Int)+ (1:Int)))) Change.zero).Kind) ((Procs.zero,[])) ((Procs.zero,[]))) (cond (s.Other==(List.getD (r27Due s.Pending event).snd (Int.toNat (IntKind.wrap IntKind.i64 ((0:Int)+ (1:Int)))) Change.zero).Kind) ((Procs.zero,[])) ((Procs.zero,[])))) ((({s with Own:=(-1),Pending:=(r27Due s.Pending event).fst}: Procs),(r27Due s.Pending event).snd)))) (cond (s.Other==(List.getD (r27Due s.Pending event).snd (Int.toNat 0) Change.zero).Kind) (cond (decide (IntKind.wrap IntKind.i64 ((0:Int)+ (1:Int)) < (↑(List.length (r27Due s.Pending event).snd): Int))) (cond (s.Own==(List.getD (r27Due s.Pending event).snd (Int.toNat (IntKind.wrap IntKind.i64 ((0:Int)+ (1:Int)))) Change.zero).Kind) (cond ((-1)== (List.getD (r27Due s.Pending event).snd (Int.toNat (IntKind.wrap IntKind.i64 ((0:Int)+ (1:Int)))) Change.zero).Kind) ((Procs.zero,[])) ((Procs.zero,[]))) (cond ((-1)== (List.getD (r27Due s.Pending event).snd (Int.toNat (IntKind.wrap IntKind.i64 ((0:Int)+ (1:Int)))) Change.zero).Kind) ((Procs.zero,[])) ((Procs.zero,[])))) ((({s with Other:=(-1),Pending:=(r27Due s.Pending event).fst}: Procs),(r27Due s.Pending event).snd))) (cond (decide (IntKind.wrap IntKind.i64 ((0:Int)+ (1:Int)) < (↑(List.length (r27Due s.Pending event).snd): Int))) (cond (s.Own==(List.getD (r27Due s.Pending event).snd (Int.toNat (IntKind.wrap IntKind.i64 ((0:Int)+ (1:Int)))) Change.zero).Kind) (cond (s.Other==(List.getD (r27Due s.Pending event).snd (Int.toNat (IntKind.wrap IntKind.i64 ((0:Int)+ (1:Int)))) Change.zero).Kind) ((Procs.zero,[])) ((Procs.zero,[]))) (cond (s.Other==(List.getD (r27Due s.Pending event).snd (Int.toNat (IntKind.wrap IntKind.i64 ((0:Int)+ (1:Int)))) Change.zero).Kind) ((Procs.zero,[])) ((Procs.zero,[])))) ((({s with Pending:=(r27Due s.Pending event).fst}: Procs),(r27Due s.Pending event).snd))))) ((({s with Pending:=(r27Due s.Pending event).fst}: Procs),(r27Due s.Pending event).snd)))
def r28Due.dec (cs:List (AV El)): Option (Procs×Int):= popA Procs.dec cs fun a0 c0=>popI .u16 c0 fun a1 c1=>popE c1 (a0,a1)
def r28Due.enc (x:Procs×Int): List (AV El):= [Procs.av x.1, .v (.int .u16 x.2)]
theorem r28Due.dec_ok : ∀cs x,r28Due.dec cs=some x→Imp (S:=S) cs (r28Due.enc x):= by
 intro cs x h
 unfold r28Due.dec at h
 obtain ⟨a0,c0,h0,k0⟩:= popA_some (S:=S) Procs.dec_ok h
 obtain ⟨a1,c1,rfl,h1⟩:= popI_some (S:=S) h0
 obtain ⟨rfl,rfl⟩:= popE_some (S:=S) h1
 exact (k0 _ (.cons (.refl _)))
def r28Due.nf (s:Procs) (event:Int) (v:Procs×(List Change)): Prop:=Ob (List.length s.Pending≤(1:Nat))∧(Ob (o3 (s.Role==0))∧(Ob (o3 (s.Role==0))∧(Ob (o2 (s.Role==0))∧(Ob (o3 (bif s.Role==0 then decide (0 < (↑(List.length (r27Due s.Pending event).snd): Int)) else false))∧(Ob (o3 (bif s.Role==0 then decide (0 < (↑(List.length (r27Due s.Pending event).snd): Int)) else false))∧(Ob (o2 (bif s.Role==0 then decide (0 < (↑(List.length (r27Due s.Pending event).snd): Int)) else false))∧(cond (bif bif s.Role==0 then decide (0 < (↑(List.length (r27Due s.Pending event).snd): Int)) else false then !s.Told else false) (cond (s.Ended==0) (r28Due.L ((({s with Pending:=(r27Due s.Pending event).fst,Ended:=40}: Procs),[])) v) (r28Due.L ((({s with Pending:=(r27Due s.Pending event).fst}: Procs),[])) v)) ((List.length (r27Due s.Pending event).snd≤(9223372036854775807:Nat))→(cond (decide (0 < (↑(List.length (r27Due s.Pending event).snd): Int))) (Ob ((0:Int)≤(0:Int)∧0 < (↑(List.length (r27Due s.Pending event).snd): Int))∧(cond (s.Own==(List.getD (r27Due s.Pending event).snd (Int.toNat 0) Change.zero).Kind) (Ob ((0:Int)≤(0:Int)∧0 < (↑(List.length (r27Due s.Pending event).snd): Int))∧(cond (s.Other==(List.getD (r27Due s.Pending event).snd (Int.toNat 0) Change.zero).Kind) ((List.length (r27Due s.Pending event).snd≤(9223372036854775807:Nat))→(cond (decide (IntKind.wrap IntKind.i64 ((0:Int)+ (1:Int)) < (↑(List.length (r27Due s.Pending event).snd): Int))) (Ob (0≤IntKind.wrap IntKind.i64 ((0:Int)+ (1:Int))∧IntKind.wrap IntKind.i64 ((0:Int)+ (1:Int)) < (↑(List.length (r27Due s.Pending event).snd): Int))∧(cond ((-1)== (List.getD (r27Due s.Pending event).snd (Int.toNat (IntKind.wrap IntKind.i64 ((0:Int)+ (1:Int)))) Change.zero).Kind) (Ob (0≤IntKind.wrap IntKind.i64 ((0:Int)+ (1:Int))∧IntKind.wrap IntKind.i64 ((0:Int)+ (1:Int)) < (↑(List.length (r27Due s.Pending event).snd): Int))∧(cond ((-1)== (List.getD (r27Due s.Pending event).snd (Int.toNat (IntKind.wrap IntKind.i64 ((0:Int)+ (1:Int)))) Change.zero).Kind) (False) (False))) (Ob (0≤IntKind.wrap IntKind.i64 ((0:Int)+ (1:Int))∧IntKind.wrap IntKind.i64 ((0:Int)+ (1:Int)) < (↑(List.length (r27Due s.Pending event).snd): Int))∧(cond ((-1)== (List.getD (r27Due s.Pending event).snd (Int.toNat (IntKind.wrap IntKind.i64 ((0:Int)+ (1:Int)))) Change.zero).Kind) (False) (False))))) (r28Due.L ((({s with Own:=(-1),Other:=(-1),Pending:=(r27Due s.Pending event).fst}: Procs),(r27Due s.Pending event).snd)) v))) ((List.length (r27Due s.Pending event).snd≤(9223372036854775807:Nat))→(cond (decide (IntKind.wrap IntKind.i64 ((0:Int)+ (1:Int)) < (↑(List.length (r27Due s.Pending event).snd): Int))) (Ob (0≤IntKind.wrap IntKind.i64 ((0:Int)+ (1:Int))∧IntKind.wrap IntKind.i64 ((0:Int)+ (1:Int)) < (↑(List.length (r27Due s.Pending event).snd): Int))∧(cond ((-1)== (List.getD (r27Due s.Pending event).snd (Int.toNat (IntKind.wrap IntKind.i64 ((0:Int)+ (1:Int)))) Change.zero).Kind) (Ob (0≤IntKind.wrap IntKind.i64 ((0:Int)+ (1:Int))∧IntKind.wrap IntKind.i64 ((0:Int)+ (1:Int)) < (↑(List.length (r27Due s.Pending event).snd): Int))∧(cond (s.Other==(List.getD (r27Due s.Pending event).snd (Int.toNat (IntKind.wrap IntKind.i64 ((0:Int)+ (1:Int)))) Change.zero).Kind) (False) (False))) (Ob (0≤IntKind.wrap IntKind.i64 ((0:Int)+ (1:Int))∧IntKind.wrap IntKind.i64 ((0:Int)+ (1:Int)) < (↑(List.length (r27Due s.Pending event).snd): Int))∧(cond (s.Other==(List.getD (r27Due s.Pending event).snd (Int.toNat (IntKind.wrap IntKind.i64 ((0:Int)+ (1:Int)))) Change.zero).Kind) (False) (False))))) (r28Due.L ((({s with Own:=(-1),Pending:=(r27Due s.Pending event).fst}: Procs),(r27Due s.Pending event).snd)) v))))) (Ob ((0:Int)≤(0:Int)∧0 < (↑(List.length (r27Due s.Pending event).snd): Int))∧(cond (s.Other==(List.getD (r27Due s.Pending event).snd (Int.toNat 0) Change.zero).Kind) ((List.length (r27Due s.Pending event).snd≤(9223372036854775807:Nat))→(cond (decide (IntKind.wrap IntKind.i64 ((0:Int)+ (1:Int)) < (↑(List.length (r27Due s.Pending event).snd): Int))) (Ob (0≤IntKind.wrap IntKind.i64 ((0:Int)+ (1:Int))∧IntKind.wrap IntKind.i64 ((0:Int)+ (1:Int)) < (↑(List.length (r27Due s.Pending event).snd): Int))∧(cond (s.Own==(List.getD (r27Due s.Pending event).snd (Int.toNat (IntKind.wrap IntKind.i64 ((0:Int)+ (1:Int)))) Change.zero).Kind) (Ob (0≤IntKind.wrap IntKind.i64 ((0:Int)+ (1:Int))∧IntKind.wrap IntKind.i64 ((0:Int)+ (1:Int)) < (↑(List.length (r27Due s.Pending event).snd): Int))∧(cond ((-1)== (List.getD (r27Due s.Pending event).snd (Int.toNat (IntKind.wrap IntKind.i64 ((0:Int)+ (1:Int)))) Change.zero).Kind) (False) (False))) (Ob (0≤IntKind.wrap IntKind.i64 ((0:Int)+ (1:Int))∧IntKind.wrap IntKind.i64 ((0:Int)+ (1:Int)) < (↑(List.length (r27Due s.Pending event).snd): Int))∧(cond ((-1)== (List.getD (r27Due s.Pending event).snd (Int.toNat (IntKind.wrap IntKind.i64 ((0:Int)+ (1:Int)))) Change.zero).Kind) (False) (False))))) (r28Due.L ((({s with Other:=(-1),Pending:=(r27Due s.Pending event).fst}: Procs),(r27Due s.Pending event).snd)) v))) ((List.length (r27Due s.Pending event).snd≤(9223372036854775807:Nat))→(cond (decide (IntKind.wrap IntKind.i64 ((0:Int)+ (1:Int)) < (↑(List.length (r27Due s.Pending event).snd): Int))) (Ob (0≤IntKind.wrap IntKind.i64 ((0:Int)+ (1:Int))∧IntKind.wrap IntKind.i64 ((0:Int)+ (1:Int)) < (↑(List.length (r27Due s.Pending event).snd): Int))∧(cond (s.Own==(List.getD (r27Due s.Pending event).snd (Int.toNat (IntKind.wrap IntKind.i64 ((0:Int)+ (1:Int)))) Change.zero).Kind) (Ob (0≤IntKind.wrap IntKind.i64 ((0:Int)+ (1:Int))∧IntKind.wrap IntKind.i64 ((0:Int)+ (1:Int)) < (↑(List.length (r27Due s.Pending event).snd): Int))∧(cond (s.Other==(List.getD (r27Due s.Pending event).snd (Int.toNat (IntKind.wrap IntKind.i64 ((0:Int)+ (1:Int)))) Change.zero).Kind) (False) (False))) (Ob (0≤IntKind.wrap IntKind.i64 ((0:Int)+ (1:Int))∧IntKind.wrap IntKind.i64 ((0:Int)+ (1:Int)) < (↑(List.length (r27Due s.Pending event).snd): Int))∧(cond (s.Other==(List.getD (r27Due s.Pending event).snd (Int.toNat (IntKind.wrap IntKind.i64 ((0:Int)+ (1:Int)))) Change.zero).Kind) (False) (False))))) (r28Due.L ((({s with Pending:=(r27Due s.Pending event).fst}: Procs),(r27Due s.Pending event).snd)) v))))))) (r28Due.L ((({s with Pending:=(r27Due s.Pending event).fst}: Procs),(r27Due s.Pending event).snd)) v))))))))))
theorem r28Due.nf_ok (s:Procs) (event:Int) (v:Procs×(List Change)): evFun (mkCx Tryz.prog S tab_r28Handle 2) 6 23 [Procs.av s, .v (.int .u16 event)] [] (fun r' H'=>Gives r' H' (r28Due.res v) (r28Due.news v))= r28Due.nf s event v:=by kernel_rfl
theorem r28Due.key (s:Procs) (event:Int) (hp:s.Pending.length≤1) (v:Procs×(List Change)) (hv:v=r28Due s event): r28Due.nf s event v:=by
 unfold r28Due at hv
 unfold r28Due.nf
 refine ⟨⟨?_⟩, ?_⟩;rotate_left
 iterate 2 refine ⟨⟨o3_ok _⟩, ?_⟩
 refine ⟨⟨o2_ok _⟩, ?_⟩
 iterate 2 refine ⟨⟨o3_ok _⟩, ?_⟩
 refine ⟨⟨o2_ok _⟩, ?_⟩
 revert hv;refine by_cond2 (fun hb hv=>?_) (fun hb hv=>?_)
 revert hv;refine by_cond2 (fun hb hv=>?_) (fun hb hv=>?_)
 subst hv;exact ⟨rfl,rfl⟩
 subst hv;exact ⟨rfl,rfl⟩
 intro hlen
 revert hv;refine by_cond2 (fun hb hv=>?_) (fun hb hv=>?_)
 refine ⟨⟨?_⟩, ?_⟩;rotate_left
 revert hv;refine by_cond2 (fun hb hv=>?_) (fun hb hv=>?_)
 refine ⟨⟨?_⟩, ?_⟩;rotate_left
 revert hv;refine by_cond2 (fun hb hv=>?_) (fun hb hv=>?_)
 intro hlen
 revert hv;refine by_cond2 (fun hb hv=>?_) (fun hb hv=>?_)
 refine ⟨⟨?_⟩, ?_⟩;rotate_left
 revert hv;refine by_cond2 (fun hb hv=>?_) (fun hb hv=>?_)
 refine ⟨⟨?_⟩, ?_⟩;rotate_left
 revert hv;refine by_cond2 (fun hb hv=>?_) (fun hb hv=>?_)
 exact False.elim (by (try clear hv);(try clear q1 q2);(try clear hk);(exfalso;have hw:IntKind.wrap IntKind.i64 ((0:Int)+ (1:Int))= 1:=(by decide);have hq:=r27Due_le s.Pending event (by omega);simp only [hw,decide_eq_true_eq,decide_eq_false_iff_not] at * <;> omega))
 exact False.elim (by (try clear hv);(try clear q1 q2);(try clear hk);(exfalso;have hw:IntKind.wrap IntKind.i64 ((0:Int)+ (1:Int))= 1:=(by decide);have hq:=r27Due_le s.Pending event (by omega);simp only [hw,decide_eq_true_eq,decide_eq_false_iff_not] at * <;> omega))
 refine ⟨⟨?_⟩, ?_⟩;rotate_left
 revert hv;refine by_cond2 (fun hb hv=>?_) (fun hb hv=>?_)
 exact False.elim (by (try clear hv);(try clear q1 q2);(try clear hk);(exfalso;have hw:IntKind.wrap IntKind.i64 ((0:Int)+ (1:Int))= 1:=(by decide);have hq:=r27Due_le s.Pending event (by omega);simp only [hw,decide_eq_true_eq,decide_eq_false_iff_not] at * <;> omega))
 exact False.elim (by (try clear hv);(try clear q1 q2);(try clear hk);(exfalso;have hw:IntKind.wrap IntKind.i64 ((0:Int)+ (1:Int))= 1:=(by decide);have hq:=r27Due_le s.Pending event (by omega);simp only [hw,decide_eq_true_eq,decide_eq_false_iff_not] at * <;> omega))
 subst hv;exact ⟨rfl,rfl⟩
 intro hlen
 revert hv;refine by_cond2 (fun hb hv=>?_) (fun hb hv=>?_)
 refine ⟨⟨?_⟩, ?_⟩;rotate_left
 revert hv;refine by_cond2 (fun hb hv=>?_) (fun hb hv=>?_)
 refine ⟨⟨?_⟩, ?_⟩;rotate_left
 revert hv;refine by_cond2 (fun hb hv=>?_) (fun hb hv=>?_)
 exact False.elim (by (try clear hv);(try clear q1 q2);(try clear hk);(exfalso;have hw:IntKind.wrap IntKind.i64 ((0:Int)+ (1:Int))= 1:=(by decide);have hq:=r27Due_le s.Pending event (by omega);simp only [hw,decide_eq_true_eq,decide_eq_false_iff_not] at * <;> omega))
 exact False.elim (by (try clear hv);(try clear q1 q2);(try clear hk);(exfalso;have hw:IntKind.wrap IntKind.i64 ((0:Int)+ (1:Int))= 1:=(by decide);have hq:=r27Due_le s.Pending event (by omega);simp only [hw,decide_eq_true_eq,decide_eq_false_iff_not] at * <;> omega))
 refine ⟨⟨?_⟩, ?_⟩;rotate_left
 revert hv;refine by_cond2 (fun hb hv=>?_) (fun hb hv=>?_)
 exact False.elim (by (try clear hv);(try clear q1 q2);(try clear hk);(exfalso;have hw:IntKind.wrap IntKind.i64 ((0:Int)+ (1:Int))= 1:=(by decide);have hq:=r27Due_le s.Pending event (by omega);simp only [hw,decide_eq_true_eq,decide_eq_false_iff_not] at * <;> omega))
 exact False.elim (by (try clear hv);(try clear q1 q2);(try clear hk);(exfalso;have hw:IntKind.wrap IntKind.i64 ((0:Int)+ (1:Int))= 1:=(by decide);have hq:=r27Due_le s.Pending event (by omega);simp only [hw,decide_eq_true_eq,decide_eq_false_iff_not] at * <;> omega))
 subst hv;exact ⟨rfl,rfl⟩
 refine ⟨⟨?_⟩, ?_⟩;rotate_left
 revert hv;refine by_cond2 (fun hb hv=>?_) (fun hb hv=>?_)
 intro hlen
 revert hv;refine by_cond2 (fun hb hv=>?_) (fun hb hv=>?_)
 refine ⟨⟨?_⟩, ?_⟩;rotate_left
 revert hv;refine by_cond2 (fun hb hv=>?_) (fun hb hv=>?_)
 refine ⟨⟨?_⟩, ?_⟩;rotate_left
 revert hv;refine by_cond2 (fun hb hv=>?_) (fun hb hv=>?_)
 exact False.elim (by (try clear hv);(try clear q1 q2);(try clear hk);(exfalso;have hw:IntKind.wrap IntKind.i64 ((0:Int)+ (1:Int))= 1:=(by decide);have hq:=r27Due_le s.Pending event (by omega);simp only [hw,decide_eq_true_eq,decide_eq_false_iff_not] at * <;> omega))
 exact False.elim (by (try clear hv);(try clear q1 q2);(try clear hk);(exfalso;have hw:IntKind.wrap IntKind.i64 ((0:Int)+ (1:Int))= 1:=(by decide);have hq:=r27Due_le s.Pending event (by omega);simp only [hw,decide_eq_true_eq,decide_eq_false_iff_not] at * <;> omega))
 refine ⟨⟨?_⟩, ?_⟩;rotate_left
 revert hv;refine by_cond2 (fun hb hv=>?_) (fun hb hv=>?_)
 exact False.elim (by (try clear hv);(try clear q1 q2);(try clear hk);(exfalso;have hw:IntKind.wrap IntKind.i64 ((0:Int)+ (1:Int))= 1:=(by decide);have hq:=r27Due_le s.Pending event (by omega);simp only [hw,decide_eq_true_eq,decide_eq_false_iff_not] at * <;> omega))
 exact False.elim (by (try clear hv);(try clear q1 q2);(try clear hk);(exfalso;have hw:IntKind.wrap IntKind.i64 ((0:Int)+ (1:Int))= 1:=(by decide);have hq:=r27Due_le s.Pending event (by omega);simp only [hw,decide_eq_true_eq,decide_eq_false_iff_not] at * <;> omega))
 subst hv;exact ⟨rfl,rfl⟩
 intro hlen
 revert hv;refine by_cond2 (fun hb hv=>?_) (fun hb hv=>?_)
 refine ⟨⟨?_⟩, ?_⟩;rotate_left
 revert hv;refine by_cond2 (fun hb hv=>?_) (fun hb hv=>?_)
 refine ⟨⟨?_⟩, ?_⟩;rotate_left
 revert hv;refine by_cond2 (fun hb hv=>?_) (fun hb hv=>?_)
 exact False.elim (by (try clear hv);(try clear q1 q2);(try clear hk);(exfalso;have hw:IntKind.wrap IntKind.i64 ((0:Int)+ (1:Int))= 1:=(by decide);have hq:=r27Due_le s.Pending event (by omega);simp only [hw,decide_eq_true_eq,decide_eq_false_iff_not] at * <;> omega))
 exact False.elim (by (try clear hv);(try clear q1 q2);(try clear hk);(exfalso;have hw:IntKind.wrap IntKind.i64 ((0:Int)+ (1:Int))= 1:=(by decide);have hq:=r27Due_le s.Pending event (by omega);simp only [hw,decide_eq_true_eq,decide_eq_false_iff_not] at * <;> omega))
 refine ⟨⟨?_⟩, ?_⟩;rotate_left
 revert hv;refine by_cond2 (fun hb hv=>?_) (fun hb hv=>?_)
 exact False.elim (by (try clear hv);(try clear q1 q2);(try clear hk);(exfalso;have hw:IntKind.wrap IntKind.i64 ((0:Int)+ (1:Int))= 1:=(by decide);have hq:=r27Due_le s.Pending event (by omega);simp only [hw,decide_eq_true_eq,decide_eq_false_iff_not] at * <;> omega))
 exact False.elim (by (try clear hv);(try clear q1 q2);(try clear hk);(exfalso;have hw:IntKind.wrap IntKind.i64 ((0:Int)+ (1:Int))= 1:=(by decide);have hq:=r27Due_le s.Pending event (by omega);simp only [hw,decide_eq_true_eq,decide_eq_false_iff_not] at * <;> omega))
 subst hv;exact ⟨rfl,rfl⟩
 subst hv;exact ⟨rfl,rfl⟩
 all_goals (first | ((try clear hv);(try clear q1 q2);(try clear hk);(first | omega | ((try simp only [decide_eq_true_eq,decide_eq_false_iff_not,Bool.not_eq_true,Bool.not_eq_false,Bool.and_eq_true,Bool.or_eq_true,Bool.not_not,cond_and,cond_or,List.length_append,List.length_cons,List.length_nil] at *);(first | done | (have:=wi64s ((0:Int)+ (1:Int));(omega)))));done)| ((try clear hv);(try clear q1 q2);(try clear hk);(first | omega | ((try simp only [decide_eq_true_eq,decide_eq_false_iff_not,Bool.not_eq_true,Bool.not_eq_false,Bool.and_eq_true,Bool.or_eq_true,Bool.not_not,cond_and,cond_or,List.length_append,List.length_cons,List.length_nil] at *);(first | done | (omega))));done))
def r28Due.ct:Ct El:=ctOf r28Due.dec (fun x=>[x.1.Pending.length≤1]) (fun x=>r28Due.res (r28Due x.1 x.2)) (fun x=>r28Due.news (r28Due x.1 x.2))
theorem r28Due.ok:CtOk (mkCx Tryz.prog S [] 0) 23 r28Due.ct:=ct_mk (C:=(mkCx Tryz.prog S tab_r28Handle 2)) (mkCx_ok sigOk mixed tab_r28Handle_ok 2) r28Due.dec_ok (fun x=>rfl) 6 (fun x hp=>(r28Due.nf_ok x.1 x.2 _).mpr (r28Due.key x.1 x.2 (hp _ (List.mem_singleton.2 rfl)) _ rfl))
def tab_r28Due:List (FuncId×Ct El):= (23,r28Due.ct):: tab_r28Handle
theorem tab_r28Due_ok:TabOk Tryz.prog S tab_r28Due:=⟨r28Due.ok,by kernel_rfl,tab_r28Handle_ok⟩
def iA (a:List Indication) (i:Int): Indication:=List.getD a (Int.toNat i) Indication.zero
def sameInds.res (r:Bool): AV El:=.v (.bool (r))
def sameInds.news (r:Bool): List (AObj El):= []
def sameInds.L (e v:Bool): Prop:=sameInds.res e=sameInds.res v∧sameInds.news e=sameInds.news v
def sameInds.go (a:List Indication) (b:List Indication): Nat→Int→Bool
 | 0,_=>false
 | n0+1,i=>cond (decide (i < (↑(List.length a): Int))) (cond (bif bif bif bif bif bif (iA a i).Kind != (iA b i).Kind then true else (iA a i).Event != (iA b i).Event then true else !((iA a i).Change.Kind==(iA b i).Change.Kind && ((iA a i).Change.Instant==(iA b i).Change.Instant && ((iA a i).Change.Update.WinSize==(iA b i).Change.Update.WinSize && ((iA a i).Change.Update.WinOffset==(iA b i).Change.Update.WinOffset && ((iA a i).Change.Update.Interval==(iA b i).Change.Update.Interval && ((iA a i).Change.Update.Latency==(iA b i).Change.Update.Latency && ((iA a i).Change.Update.Timeout==(iA b i).Change.Update.Timeout && (iA a i).Change.Map==(iA b i).Change.Map))))))) then true else (iA a i).Number != (iA b i).Number then true else !((iA a i).Update.WinSize==(iA b i).Update.WinSize && ((iA a i).Update.WinOffset==(iA b i).Update.WinOffset && ((iA a i).Update.Interval==(iA b i).Update.Interval && ((iA a i).Update.Latency==(iA b i).Update.Latency && (iA a i).Update.Timeout==(iA b i).Update.Timeout)))) then true else (iA a i).Packet.LLID != (iA b i).Packet.LLID then true else (↑(List.length (iA a i).Packet.Payload): Int) != (↑(List.length (iA b i).Packet.Payload): Int)) (false) (sameInds.go a b n0 (IntKind.wrap IntKind.i64 (i+(1:Int))))) (true)
def sameInds.hd (a:List Indication) (b:List Indication) (i:Int): St El:={lo:=0,slots:=[(5, .v (.int .i64 (i))),(0, .sl 57 (a:List (El 57)) false),(1, .sl 57 (b:List (El 57)) false)],n:=80,objs:=[]}
def sI1 (a b:List Indication) (i:Int): Bool:=(iA a i).Kind != (iA b i).Kind
def sI2 (a b:List Indication) (i:Int): Bool:=bif sI1 a b i then true else (iA a i).Event != (iA b i).Event
def sI3 (a b:List Indication) (i:Int): Bool:=bif sI2 a b i then true else !((iA a i).Change.Kind==(iA b i).Change.Kind && ((iA a i).Change.Instant==(iA b i).Change.Instant && ((iA a i).Change.Update.WinSize==(iA b i).Change.Update.WinSize && ((iA a i).Change.Update.WinOffset==(iA b i).Change.Update.WinOffset && ((iA a i).Change.Update.Interval==(iA b i).Change.Update.Interval && ((iA a i).Change.Update.Latency==(iA b i).Change.Update.Latency && ((iA a i).Change.Update.Timeout==(iA b i).Change.Update.Timeout && (iA a i).Change.Map==(iA b i).Change.Map)))))))
def sI4 (a b:List Indication) (i:Int): Bool:=bif sI3 a b i then true else (iA a i).Number != (iA b i).Number
def sI5 (a b:List Indication) (i:Int): Bool:=bif sI4 a b i then true else !((iA a i).Update.WinSize==(iA b i).Update.WinSize && ((iA a i).Update.WinOffset==(iA b i).Update.WinOffset && ((iA a i).Update.Interval==(iA b i).Update.Interval && ((iA a i).Update.Latency==(iA b i).Update.Latency && (iA a i).Update.Timeout==(iA b i).Update.Timeout))))
def sI6 (a b:List Indication) (i:Int): Bool:=bif sI5 a b i then true else (iA a i).Packet.LLID != (iA b i).Packet.LLID
def sI7 (a b:List Indication) (i:Int): Bool:=bif sI6 a b i then true else (↑(List.length (iA a i).Packet.Payload): Int) != (↑(List.length (iA b i).Packet.Payload): Int)
def sameInds.st (a:List Indication) (b:List Indication) (i:Int) (J:St El→Prop) (v:Bool): Prop:=(List.length a≤(9223372036854775807:Nat))→(cond (decide (i < (↑(List.length a): Int))) (Ob (0≤i∧i < (↑(List.length a): Int))∧(Ob (0≤i∧i < (↑(List.length b): Int))∧(Ob (o3 (!sI1 a b i))∧(Ob (o3 (!sI1 a b i))∧(Ob (o3 (!sI1 a b i))∧(Ob (o3 (!sI1 a b i))∧(Ob (on (sI1 a b i))∧(Ob (o3 (!sI2 a b i))∧(Ob (o3 (!sI2 a b i))∧(Ob (o3 (!sI2 a b i))∧(Ob (o3 (!sI2 a b i))∧(Ob (on (sI2 a b i))∧(Ob (o3 (!sI3 a b i))∧(Ob (o3 (!sI3 a b i))∧(Ob (o3 (!sI3 a b i))∧(Ob (o3 (!sI3 a b i))∧(Ob (on (sI3 a b i))∧(Ob (o3 (!sI4 a b i))∧(Ob (o3 (!sI4 a b i))∧(Ob (o3 (!sI4 a b i))∧(Ob (o3 (!sI4 a b i))∧(Ob (on (sI4 a b i))∧(Ob (o3 (!sI5 a b i))∧(Ob (o3 (!sI5 a b i))∧(Ob (o3 (!sI5 a b i))∧(Ob (o3 (!sI5 a b i))∧(Ob (o3 (!sI5 a b i))∧(Ob (o3 (!sI5 a b i))∧(Ob (on (sI5 a b i))∧(Ob (o3 (!sI6 a b i))∧(Ob (o3 (!sI6 a b i))∧(Ob (o3 (!sI6 a b i))∧(Ob (o3 (!sI6 a b i))∧(Ob (o3 (!sI6 a b i))∧(Ob (o3 (!sI6 a b i))∧(Ob (o3 (!sI6 a b i))∧(Ob (o3 (!sI6 a b i))∧(Ob (on (sI6 a b i))∧(cond (sI7 a b i) (sameInds.L (false) v) (J (sameInds.hd a b (IntKind.wrap IntKind.i64 (i+1))))))))))))))))))))))))))))))))))))))))))) (sameInds.L (true) v))
theorem sameInds.st_ok (a:List Indication) (b:List Indication) (i:Int) (J:St El→Prop) (v:Bool): evCode (mkCx Tryz.prog S tab_r28Due 0) (evFun (mkCx Tryz.prog S tab_r28Due 0) 3) (loopB Tryz.prog 17 [true,true,false,true,false]) (sameInds.hd a b i) (roundK (C:=(mkCx Tryz.prog S tab_r28Due 0)) [5,0,1] [] J (loopK (mkCx Tryz.prog S tab_r28Due 0) 3 17 [true,true,false,true,false] (fun r' H'=>Gives r' H' (sameInds.res v) (sameInds.news v))))= sameInds.st a b i J v:=by kernel_rfl
def sameInds.rng (a:List Indication) (b:List Indication) (n0:Nat) (i:Int): Prop:=0≤i∧i≤a.length∧(a.length - i).toNat < n0∧a.length=b.length
theorem sameInds.lp (a:List Indication) (b:List Indication) (v:Bool) (n0:Nat) (i:Int) (hv:v=sameInds.go a b n0 i) (h0:sameInds.rng a b n0 i) (st:St El) (q1:okH [5,0,1] [] st=true) (q2:headS [5,0,1] [] st=sameInds.hd a b i): evCode (mkCx Tryz.prog S tab_r28Due 0) (evFun (mkCx Tryz.prog S tab_r28Due 0) 3) (.loop (loopB Tryz.prog 17 [true,true,false,true,false])) st (loopK (mkCx Tryz.prog S tab_r28Due 0) 3 17 [true,true,false,true,false] (fun r' H'=>Gives r' H' (sameInds.res v) (sameInds.news v))):= by
 refine loop_ev (by kernel_rfl) (evFun_mono _ _) [5,0,1] [] (X:=Nat×Int) (fun x=>sameInds.hd a b x.2) (fun x=>x.1) (fun x=>sameInds.rng a b x.1 x.2∧v=sameInds.go a b x.1 x.2) (n0,i) ⟨q1,q2⟩ ⟨h0,hv⟩ ?_
 clear h0 hv q1 q2
 rintro ⟨n0,i⟩ ⟨hr,hv⟩
 dsimp only at hr hv
 cases n0 with
 | zero=>exact absurd hr (by unfold sameInds.rng;omega)
 | succ n0 =>
 unfold sameInds.rng at hr
 unfold sameInds.go at hv
 refine (sameInds.st_ok a b i _ _).mpr ?_
 unfold sameInds.st
 intro hlen
 revert hv;refine by_cond2 (fun hb hv=>?_) (fun hb hv=>?_)
 refine ⟨⟨?_⟩, ?_⟩;rotate_left
 refine ⟨⟨?_⟩, ?_⟩;rotate_left
 iterate 4 refine ⟨⟨o3_ok _⟩, ?_⟩
 refine ⟨⟨on_ok _⟩, ?_⟩
 iterate 4 refine ⟨⟨o3_ok _⟩, ?_⟩
 refine ⟨⟨on_ok _⟩, ?_⟩
 iterate 4 refine ⟨⟨o3_ok _⟩, ?_⟩
 refine ⟨⟨on_ok _⟩, ?_⟩
 iterate 4 refine ⟨⟨o3_ok _⟩, ?_⟩
 refine ⟨⟨on_ok _⟩, ?_⟩
 iterate 6 refine ⟨⟨o3_ok _⟩, ?_⟩
 refine ⟨⟨on_ok _⟩, ?_⟩
 iterate 8 refine ⟨⟨o3_ok _⟩, ?_⟩
 refine ⟨⟨on_ok _⟩, ?_⟩
 revert hv;refine by_cond2 (fun hb hv=>?_) (fun hb hv=>?_)
 subst hv;exact ⟨rfl,rfl⟩
 exact ⟨(n0,(IntKind.wrap IntKind.i64 (i+(1:Int)))),(by kernel_rfl),Nat.lt_succ_self n0,(by dsimp only;unfold sameInds.rng;(try clear hv);(try clear q1 q2);(try clear hk);(try simp only [decide_eq_true_eq,decide_eq_false_iff_not,Bool.not_eq_true,Bool.not_eq_false,Bool.and_eq_true,Bool.or_eq_true,Bool.not_not,cond_and,cond_or,List.length_append,List.length_cons,List.length_nil] at *);have:=wi64s (i+(1:Int));omega),hv⟩
 subst hv;exact ⟨rfl,rfl⟩
 all_goals ((try clear hv);(try clear q1 q2);(try clear hk);(((try simp only [decide_eq_true_eq,decide_eq_false_iff_not,Bool.not_eq_true,Bool.not_eq_false,Bool.and_eq_true,Bool.or_eq_true,Bool.not_not,cond_and,cond_or,List.length_append,List.length_cons,List.length_nil] at *);(first | done | ((omega))))))
def sameInds (a:List Indication) (b:List Indication): Bool:=cond ((↑(List.length a): Int) != (↑(List.length b): Int)) (false) (sameInds.go a b (a.length+1) ((0:Int)))
def sameInds.dec (cs:List (AV El)): Option ((List Indication)×(List Indication)):= popS 57 cs fun a0 c0=>popS 57 c0 fun a1 c1=>popE c1 (a0,a1)
def sameInds.enc (x:(List Indication)×(List Indication)): List (AV El):= [.sl 57 (x.1:List (El 57)) false, .sl 57 (x.2:List (El 57)) false]
theorem sameInds.dec_ok : ∀cs x,sameInds.dec cs=some x→Imp (S:=S) cs (sameInds.enc x):= by
 intro cs x h
 unfold sameInds.dec at h
 obtain ⟨a0,c0,h0,k0⟩:= popS_some (S:=S) (t:=57) h
 obtain ⟨a1,c1,h1,k1⟩:= popS_some (S:=S) (t:=57) h0
 obtain ⟨rfl,rfl⟩:= popE_some (S:=S) h1
 exact (k0 _ (k1 _ (.refl _)))
def sameInds.nf (a:List Indication) (b:List Indication) (v:Bool): Prop:=(List.length a≤(9223372036854775807:Nat))→((List.length b≤(9223372036854775807:Nat))→(cond ((↑(List.length a): Int) != (↑(List.length b): Int)) (sameInds.L (false) v) (evCode (mkCx Tryz.prog S tab_r28Due 0) (evFun (mkCx Tryz.prog S tab_r28Due 0) 3) (.loop (loopB Tryz.prog 17 [true,true,false,true,false])) ({lo:=0,slots:=[(5, .v (.int .i64 (0))),(12, .v (.bool (false))),(12, .v (.bool ((↑(List.length a): Int) != (↑(List.length b): Int)))),(11, .v (.int .i64 ((↑(List.length b): Int)))),(10, .sl 57 (b:List (El 57)) false),(9, .v (.int .i64 ((↑(List.length a): Int)))),(8, .sl 57 (a:List (El 57)) false),(4, .v (.bool (false))),(0, .sl 57 (a:List (El 57)) false),(1, .sl 57 (b:List (El 57)) false)],n:=80,objs:=[]}) (loopK (mkCx Tryz.prog S tab_r28Due 0) 3 17 [true,true,false,true,false] (fun r' H'=>Gives r' H' (sameInds.res v) (sameInds.news v))))))
theorem sameInds.nf_ok (a:List Indication) (b:List Indication) (v:Bool): evFun (mkCx Tryz.prog S tab_r28Due 0) 4 17 [.sl 57 (a:List (El 57)) false, .sl 57 (b:List (El 57)) false] [] (fun r' H'=>Gives r' H' (sameInds.res v) (sameInds.news v))= sameInds.nf a b v:=by kernel_rfl
theorem sameInds.key (a:List Indication) (b:List Indication) (v:Bool) (hv:v=sameInds a b): sameInds.nf a b v:=by
 unfold sameInds at hv
 unfold sameInds.nf
 intro hlen
 intro hlen
 revert hv;refine by_cond2 (fun hb hv=>?_) (fun hb hv=>?_)
 ·subst hv;exact ⟨rfl,rfl⟩
 ·exact sameInds.lp a b v _ _ hv (by unfold sameInds.rng;(try clear hv);(try clear q1 q2);(try clear hk);((try simp only [bne_eq_false_iff_eq] at *);omega)) _ (by kernel_rfl) (by kernel_rfl)
def sameInds.ct:Ct El:=ctOf sameInds.dec (fun _=>[]) (fun x=>sameInds.res (sameInds x.1 x.2)) (fun x=>sameInds.news (sameInds x.1 x.2))
theorem sameInds.ok:CtOk (mkCx Tryz.prog S [] 0) 17 sameInds.ct:=ct_mk (C:=(mkCx Tryz.prog S tab_r28Due 0)) (mkCx_ok sigOk mixed tab_r28Due_ok 0) sameInds.dec_ok (fun x=>rfl) 4 (fun x _=>(sameInds.nf_ok x.1 x.2 _).mpr (sameInds.key x.1 x.2 _ rfl))
def tab_sameInds:List (FuncId×Ct El):= (17,sameInds.ct):: tab_r28Due
theorem tab_sameInds_ok:TabOk Tryz.prog S tab_sameInds:=⟨sameInds.ok,by kernel_rfl,tab_r28Due_ok⟩
end Go.Aw.W
