/- Contracts of the seat (printed by ct.py). -/
import Derived.Test.YtlnbhdcaebmffaaGreatXW13
set_option linter.unusedVariables false
set_option linter.unusedSimpArgs false
set_option maxRecDepth 20000
set_option maxHeartbeats 1000000
namespace Go.Aw.W
open Go Go.Aw Go.Proofs
attribute [local irreducible] evCode evFun evOps evDs evOne ctxK loopK loopB subC bodyC headS okH roundK
attribute [local irreducible] cCheck loopL
def insDue.res (r:(List Change)×(List Change)): AV El:=.tup [.sl 55 (r.1:List (El 55)) false, .sl 55 (r.2:List (El 55)) false]
def insDue.news (r:(List Change)×(List Change)): List (AObj El):= []
def insDue.L (e v:(List Change)×(List Change)): Prop:=insDue.res e=insDue.res v∧insDue.news e=insDue.news v
def insDue (l:List Change) (event:Int): (List Change)×(List Change):= cond (decide (0 < (↑(List.length l): Int))) (cond (serPassed event (List.getD l (Int.toNat 0) Change.zero).Instant) (cond (decide (IntKind.wrap IntKind.i64 ((0:Int)+ (1:Int)) < (↑(List.length l): Int))) (cond (serPassed event (List.getD l (Int.toNat (IntKind.wrap IntKind.i64 ((0:Int)+ (1:Int)))) Change.zero).Instant) (([],[])) (([],[]))) ((List.drop (Int.toNat 0) (List.take (Int.toNat 0) l),List.drop (Int.toNat 0) (List.take (Int.toNat 0) l)++ [List.getD l (Int.toNat 0) Change.zero]))) (cond (decide (IntKind.wrap IntKind.i64 ((0:Int)+ (1:Int)) < (↑(List.length l): Int))) (cond (serPassed event (List.getD l (Int.toNat (IntKind.wrap IntKind.i64 ((0:Int)+ (1:Int)))) Change.zero).Instant) (([],[])) (([],[]))) ((List.drop (Int.toNat 0) (List.take (Int.toNat 0) l)++ [List.getD l (Int.toNat 0) Change.zero],List.drop (Int.toNat 0) (List.take (Int.toNat 0) l))))) ((List.drop (Int.toNat 0) (List.take (Int.toNat 0) l),List.drop (Int.toNat 0) (List.take (Int.toNat 0) l)))
def insDue.dec (cs:List (AV El)): Option ((List Change)×Int):= popS 55 cs fun a0 c0=>popI .u16 c0 fun a1 c1=>popE c1 (a0,a1)
def insDue.enc (x:(List Change)×Int): List (AV El):= [.sl 55 (x.1:List (El 55)) false, .v (.int .u16 x.2)]
theorem insDue.dec_ok : ∀cs x,insDue.dec cs=some x→Imp (S:=S) cs (insDue.enc x):= by
 intro cs x h
 unfold insDue.dec at h
 obtain ⟨a0,c0,h0,k0⟩:= popS_some (S:=S) (t:=55) h
 obtain ⟨a1,c1,rfl,h1⟩:= popI_some (S:=S) h0
 obtain ⟨rfl,rfl⟩:= popE_some (S:=S) h1
 exact (k0 _ (.cons (.refl _)))
def insDue.nf (l:List Change) (event:Int) (v:(List Change)×(List Change)): Prop:=Ob ((0:Int)≤(0:Int)∧(0:Int)≤(0:Int)∧0≤(↑(List.length l): Int)∧(0:Int)= (0:Int))∧(Ob ((0:Int)≤(0:Int)∧(0:Int)≤(0:Int)∧0≤(↑(List.length l): Int)∧(0:Int)= (0:Int))∧((List.length l≤(9223372036854775807:Nat))→(cond (decide (0 < (↑(List.length l): Int))) (Ob ((0:Int)≤(0:Int)∧0 < (↑(List.length l): Int))∧(cond (serPassed event (List.getD l (Int.toNat 0) Change.zero).Instant) (Ob ((List.length (List.drop (Int.toNat 0) (List.take (Int.toNat 0) l))+ List.length [List.getD l (Int.toNat 0) Change.zero])* (64:Nat)≤(140737488355328:Nat))∧(cond (decide (IntKind.wrap IntKind.i64 ((0:Int)+ (1:Int)) < (↑(List.length l): Int))) (Ob (0≤IntKind.wrap IntKind.i64 ((0:Int)+ (1:Int))∧IntKind.wrap IntKind.i64 ((0:Int)+ (1:Int)) < (↑(List.length l): Int))∧(cond (serPassed event (List.getD l (Int.toNat (IntKind.wrap IntKind.i64 ((0:Int)+ (1:Int)))) Change.zero).Instant) (False) (Ob ((List.length (List.drop (Int.toNat 0) (List.take (Int.toNat 0) l))+ List.length [List.getD l (Int.toNat (IntKind.wrap IntKind.i64 ((0:Int)+ (1:Int)))) Change.zero])* (64:Nat)≤(140737488355328:Nat))∧(False)))) (insDue.L ((List.drop (Int.toNat 0) (List.take (Int.toNat 0) l),List.drop (Int.toNat 0) (List.take (Int.toNat 0) l)++ [List.getD l (Int.toNat 0) Change.zero])) v))) (Ob ((List.length (List.drop (Int.toNat 0) (List.take (Int.toNat 0) l))+ List.length [List.getD l (Int.toNat 0) Change.zero])* (64:Nat)≤(140737488355328:Nat))∧(cond (decide (IntKind.wrap IntKind.i64 ((0:Int)+ (1:Int)) < (↑(List.length l): Int))) (Ob (0≤IntKind.wrap IntKind.i64 ((0:Int)+ (1:Int))∧IntKind.wrap IntKind.i64 ((0:Int)+ (1:Int)) < (↑(List.length l): Int))∧(cond (serPassed event (List.getD l (Int.toNat (IntKind.wrap IntKind.i64 ((0:Int)+ (1:Int)))) Change.zero).Instant) (Ob ((List.length (List.drop (Int.toNat 0) (List.take (Int.toNat 0) l))+ List.length [List.getD l (Int.toNat (IntKind.wrap IntKind.i64 ((0:Int)+ (1:Int)))) Change.zero])* (64:Nat)≤(140737488355328:Nat))∧(False)) (False))) (insDue.L ((List.drop (Int.toNat 0) (List.take (Int.toNat 0) l)++ [List.getD l (Int.toNat 0) Change.zero],List.drop (Int.toNat 0) (List.take (Int.toNat 0) l))) v))))) (insDue.L ((List.drop (Int.toNat 0) (List.take (Int.toNat 0) l),List.drop (Int.toNat 0) (List.take (Int.toNat 0) l))) v))))
theorem insDue.nf_ok (l:List Change) (event:Int) (v:(List Change)×(List Change)): evFun (mkCxN Tryz.prog S tab_procReady 2 []) 4 57 [.sl 55 (l:List (El 55)) false, .v (.int .u16 event)] [] (fun r' H'=>Gives r' H' (insDue.res v) (insDue.news v))= insDue.nf l event v:=by kernel_rfl
theorem insDue.key (l:List Change) (event:Int) (hp:l.length≤1) (v:(List Change)×(List Change)) (hv:v=insDue l event): insDue.nf l event v:=by
 unfold insDue at hv
 unfold insDue.nf
 refine ⟨⟨?_⟩, ?_⟩;rotate_left
 refine ⟨⟨?_⟩, ?_⟩;rotate_left
 intro hlen
 revert hv;refine by_cond2 (fun hb hv=>?_) (fun hb hv=>?_)
 refine ⟨⟨?_⟩, ?_⟩;rotate_left
 revert hv;refine by_cond2 (fun hb hv=>?_) (fun hb hv=>?_)
 refine ⟨⟨?_⟩, ?_⟩;rotate_left
 revert hv;refine by_cond2 (fun hb hv=>?_) (fun hb hv=>?_)
 refine ⟨⟨?_⟩, ?_⟩;rotate_left
 revert hv;refine by_cond2 (fun hb hv=>?_) (fun hb hv=>?_)
 exact False.elim (by (try clear hv);(try clear q1 q2);(try clear hk);(exfalso;have hw:IntKind.wrap IntKind.i64 ((0:Int)+ (1:Int))= 1:=(by decide);simp only [hw,decide_eq_true_eq,decide_eq_false_iff_not] at * <;> omega))
 refine ⟨⟨?_⟩, ?_⟩;rotate_left
 exact False.elim (by (try clear hv);(try clear q1 q2);(try clear hk);(exfalso;have hw:IntKind.wrap IntKind.i64 ((0:Int)+ (1:Int))= 1:=(by decide);simp only [hw,decide_eq_true_eq,decide_eq_false_iff_not] at * <;> omega))
 subst hv;exact ⟨rfl,rfl⟩
 refine ⟨⟨?_⟩, ?_⟩;rotate_left
 revert hv;refine by_cond2 (fun hb hv=>?_) (fun hb hv=>?_)
 refine ⟨⟨?_⟩, ?_⟩;rotate_left
 revert hv;refine by_cond2 (fun hb hv=>?_) (fun hb hv=>?_)
 refine ⟨⟨?_⟩, ?_⟩;rotate_left
 exact False.elim (by (try clear hv);(try clear q1 q2);(try clear hk);(exfalso;have hw:IntKind.wrap IntKind.i64 ((0:Int)+ (1:Int))= 1:=(by decide);simp only [hw,decide_eq_true_eq,decide_eq_false_iff_not] at * <;> omega))
 exact False.elim (by (try clear hv);(try clear q1 q2);(try clear hk);(exfalso;have hw:IntKind.wrap IntKind.i64 ((0:Int)+ (1:Int))= 1:=(by decide);simp only [hw,decide_eq_true_eq,decide_eq_false_iff_not] at * <;> omega))
 subst hv;exact ⟨rfl,rfl⟩
 subst hv;exact ⟨rfl,rfl⟩
 all_goals (first | ((try clear hv);(try clear q1 q2);(try clear hk);(first | omega | (decide +kernel)| ((try simp only [decide_eq_true_eq,decide_eq_false_iff_not,Bool.not_eq_true,Bool.not_eq_false,Bool.and_eq_true,Bool.or_eq_true,Bool.not_not,cond_and,cond_or,List.length_append,List.length_cons,List.length_nil] at *);(first | done | ((first | omega | (intros;(try simp only [Bool.not_not,cond_and,cond_or,Bool.and_eq_true,decide_eq_true_eq] at *);(exact band_nn rfl _ _))| (intros;(try simp only [Bool.not_not,cond_and,cond_or,Bool.and_eq_true,decide_eq_true_eq] at *);(exact (wu64s _).2.1))| (intros;(try simp only [Bool.not_not,cond_and,cond_or,Bool.and_eq_true,decide_eq_true_eq] at *);(simp only [Bool.or_eq_false_iff,Bool.and_eq_false_iff,decide_eq_false_iff_not,decide_eq_true_eq,bne_iff_ne,beq_iff_eq,bne_eq_false_iff_eq,beq_eq_false_iff_ne,ne_eq,true_and] at *;omega))| (intros;(try simp only [Bool.not_not,cond_and,cond_or,Bool.and_eq_true,decide_eq_true_eq] at *);(simp only [List.length_drop,List.length_take,List.length_append,List.length_cons,List.length_nil] at *;omega))| (intros;omega)| (intros;simp only [Bool.not_not,cond_and,cond_or,Bool.and_eq_true,decide_eq_true_eq] at *;omega)| (intros;simp_all [Bool.not_not];done))))));done)| ((try clear hv);(try clear q1 q2);(try clear hk);(first | omega | (decide +kernel)| ((try simp only [decide_eq_true_eq,decide_eq_false_iff_not,Bool.not_eq_true,Bool.not_eq_false,Bool.and_eq_true,Bool.or_eq_true,Bool.not_not,cond_and,cond_or,List.length_append,List.length_cons,List.length_nil] at *);(first | done | (have:=wi64s ((0:Int)+ (1:Int));(first | omega | (intros;(try simp only [Bool.not_not,cond_and,cond_or,Bool.and_eq_true,decide_eq_true_eq] at *);(exact band_nn rfl _ _))| (intros;(try simp only [Bool.not_not,cond_and,cond_or,Bool.and_eq_true,decide_eq_true_eq] at *);(exact (wu64s _).2.1))| (intros;(try simp only [Bool.not_not,cond_and,cond_or,Bool.and_eq_true,decide_eq_true_eq] at *);(simp only [Bool.or_eq_false_iff,Bool.and_eq_false_iff,decide_eq_false_iff_not,decide_eq_true_eq,bne_iff_ne,beq_iff_eq,bne_eq_false_iff_eq,beq_eq_false_iff_ne,ne_eq,true_and] at *;omega))| (intros;(try simp only [Bool.not_not,cond_and,cond_or,Bool.and_eq_true,decide_eq_true_eq] at *);(simp only [List.length_drop,List.length_take,List.length_append,List.length_cons,List.length_nil] at *;omega))| (intros;omega)| (intros;simp only [Bool.not_not,cond_and,cond_or,Bool.and_eq_true,decide_eq_true_eq] at *;omega)| (intros;simp_all [Bool.not_not];done))))));done))
def insDue.ct:Ct El:=ctOf insDue.dec (fun x=>[x.1.length≤1]) (fun x=>insDue.res (insDue x.1 x.2)) (fun x=>insDue.news (insDue x.1 x.2))
theorem insDue.ok:CtOk (mkCx Tryz.prog S [] 0) 57 insDue.ct:=ct_mk (C:=(mkCxN Tryz.prog S tab_procReady 2 [])) (mkCxN_ok sigOk mixed tab_procReady_ok 2 []) insDue.dec_ok (fun x=>rfl) 4 (fun x hp=>(insDue.nf_ok x.1 x.2 _).mpr (insDue.key x.1 x.2 (hp _ (List.mem_singleton.2 rfl)) _ rfl))
def tab_insDue:List (FuncId×Ct El):= (57,insDue.ct):: tab_procReady
theorem tab_insDue_ok:TabOk Tryz.prog S tab_insDue:=⟨insDue.ok,by kernel_rfl,tab_procReady_ok⟩
theorem insDue_nil (e:Int): insDue [] e=([],[]):= by kernel_rfl
theorem insDue_one (c:Change) (e:Int): insDue [c] e=cond (serPassed e c.Instant) ([],[c]) ([c],[]):= by
 have h:(List.getD [c] (Int.toNat (0:Int)) Change.zero)= c:=rfl
 unfold insDue
 rw [h]
 cases serPassed e c.Instant <;> exact (show (_:List Change×List Change)= _ by kernel_rfl)
theorem insDue_le (l:List Change) (e:Int) (h:l.length≤1): (insDue l e).1.length≤1∧(insDue l e).2.length≤1:=by
 match l,h with
 | [],_=>rw [insDue_nil];simp
 | [c],_=>rw [insDue_one];cases serPassed e c.Instant <;> simp
end Go.Aw.W
