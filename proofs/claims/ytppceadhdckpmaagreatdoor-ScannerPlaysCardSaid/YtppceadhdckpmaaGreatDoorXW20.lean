/- Contracts of the seat (printed by ct.py). -/
import Derived.Test.YtppceadhdckpmaaGreatDoorXW19
set_option linter.unusedVariables false
set_option linter.unusedSimpArgs false
set_option maxRecDepth 20000
set_option maxHeartbeats 1000000
namespace Go.Aw.W
open Go Go.Aw Go.Proofs
attribute [local irreducible] evCode evFun evOps evDs evOne ctxK loopK loopB subC bodyC headS okH roundK
attribute [local irreducible] pFind r9Find
def scIsFor.res (r:Bool): AV El:=.v (.bool (r))
def scIsFor.news (r:Bool): List (AObj El):= []
def scIsFor.L (e v:Bool): Prop:=scIsFor.res e=scIsFor.res v∧scIsFor.news e=scIsFor.news v
def scIsFor (s:Scanner) (p:AdvPDU): Bool:=cond (pCheck p != (0:Int)) (false) (cond (p.Kind==(0:Int)) (true) (cond (p.Kind==(2:Int)) (true) (cond (p.Kind==(6:Int)) (true) (cond (p.Kind==(1:Int)) (p.Target.Kind==s.Params.Own.Kind && p.Target.Bits==s.Params.Own.Bits) (cond (p.Kind==(4:Int)) (p.Sender.Kind==s.Wait.Kind && p.Sender.Bits==s.Wait.Bits) (false))))))
def scIsFor.dec (cs:List (AV El)): Option (Scanner×AdvPDU):= popA Scanner.dec cs fun a0 c0=>popA AdvPDU.dec c0 fun a1 c1=>popE c1 (a0,a1)
def scIsFor.enc (x:Scanner×AdvPDU): List (AV El):= [Scanner.av x.1,AdvPDU.av x.2]
theorem scIsFor.dec_ok : ∀cs x,scIsFor.dec cs=some x→Imp (S:=S) cs (scIsFor.enc x):= by
 intro cs x h
 unfold scIsFor.dec at h
 obtain ⟨a0,c0,h0,k0⟩:= popA_some (S:=S) Scanner.dec_ok h
 obtain ⟨a1,c1,h1,k1⟩:= popA_some (S:=S) AdvPDU.dec_ok h0
 obtain ⟨rfl,rfl⟩:= popE_some (S:=S) h1
 exact (k0 _ (k1 _ (.refl _)))
def scIsFor.nf (s:Scanner) (p:AdvPDU) (v:Bool): Prop:=cond (pCheck p != (0:Int)) (scIsFor.L (false) v) (cond (p.Kind==(0:Int)) (scIsFor.L (true) v) (cond (p.Kind==(2:Int)) (scIsFor.L (true) v) (cond (p.Kind==(6:Int)) (scIsFor.L (true) v) (cond (p.Kind==(1:Int)) (scIsFor.L (p.Target.Kind==s.Params.Own.Kind && p.Target.Bits==s.Params.Own.Bits) v) (cond (p.Kind==(4:Int)) (scIsFor.L (p.Sender.Kind==s.Wait.Kind && p.Sender.Bits==s.Wait.Bits) v) (scIsFor.L (false) v))))))
theorem scIsFor.nf_ok (s:Scanner) (p:AdvPDU) (v:Bool): evFun (mkCxI Tryz.prog S tab_copied22 0 true sum_fIdx) 4 26 [Scanner.av s,AdvPDU.av p] [] (fun r' H'=>Gives r' H' (scIsFor.res v) (scIsFor.news v))= scIsFor.nf s p v:=by kernel_rfl
theorem scIsFor.key (s:Scanner) (p:AdvPDU) (v:Bool) (hv:v=scIsFor s p): scIsFor.nf s p v:=by
 unfold scIsFor at hv
 unfold scIsFor.nf
 revert hv;refine by_cond2 (fun hb hv=>?_) (fun hb hv=>?_)
 ·subst hv;exact ⟨rfl,rfl⟩
 ·revert hv;refine by_cond2 (fun hb hv=>?_) (fun hb hv=>?_)
  ·subst hv;exact ⟨rfl,rfl⟩
  ·revert hv;refine by_cond2 (fun hb hv=>?_) (fun hb hv=>?_)
   ·subst hv;exact ⟨rfl,rfl⟩
   ·revert hv;refine by_cond2 (fun hb hv=>?_) (fun hb hv=>?_)
    ·subst hv;exact ⟨rfl,rfl⟩
    ·revert hv;refine by_cond2 (fun hb hv=>?_) (fun hb hv=>?_)
     ·subst hv;exact ⟨rfl,rfl⟩
     ·revert hv;refine by_cond2 (fun hb hv=>?_) (fun hb hv=>?_)
      ·subst hv;exact ⟨rfl,rfl⟩
      ·subst hv;exact ⟨rfl,rfl⟩
def scIsFor.ct:Ct El:=ctOf scIsFor.dec (fun _=>[]) (fun x=>scIsFor.res (scIsFor x.1 x.2)) (fun x=>scIsFor.news (scIsFor x.1 x.2))
theorem scIsFor.ok:CtOk (mkCx Tryz.prog S [] 0) 26 scIsFor.ct:=ct_mk (C:=(mkCxI Tryz.prog S tab_copied22 0 true sum_fIdx)) (mkCxI_ok sigOk mixed tab_copied22_ok 0 true sum_fIdx_ok) scIsFor.dec_ok (fun x=>rfl) 4 (fun x _=>(scIsFor.nf_ok x.1 x.2 _).mpr (scIsFor.key x.1 x.2 _ rfl))
def tab_scIsFor:List (FuncId×Ct El):= (26,scIsFor.ct):: tab_copied22
theorem tab_scIsFor_ok:TabOk Tryz.prog S tab_scIsFor:=⟨scIsFor.ok,by kernel_rfl,tab_copied22_ok⟩
def scEntry.res (r:Address): AV El:=Address.av (r)
def scEntry.news (r:Address): List (AObj El):= []
def scEntry.L (e v:Address): Prop:=scEntry.res e=scEntry.res v∧scEntry.news e=scEntry.news v
def scEntry (s:Scanner) (p:AdvPDU): Address:=cond (decide ((0:Int)≤pFind s.Params.Identities p.Sender)) (cond (p.Kind==(4:Int)) ((⟨(IntKind.wrap IntKind.i64 ((List.getD s.Params.Identities (Int.toNat (pFind s.Params.Identities p.Sender)) Identity.zero).Address.Kind+(16:Int))),((List.getD s.Params.Identities (Int.toNat (pFind s.Params.Identities p.Sender)) Identity.zero).Address.Bits)⟩: Address)) ((List.getD s.Params.Identities (Int.toNat (pFind s.Params.Identities p.Sender)) Identity.zero).Address)) (cond (p.Kind==(4:Int)) ((⟨(IntKind.wrap IntKind.i64 (p.Sender.Kind+(16:Int))),(p.Sender.Bits)⟩: Address)) (p.Sender))
def scEntry.dec (cs:List (AV El)): Option (Scanner×AdvPDU):= popA Scanner.dec cs fun a0 c0=>popA AdvPDU.dec c0 fun a1 c1=>popE c1 (a0,a1)
def scEntry.enc (x:Scanner×AdvPDU): List (AV El):= [Scanner.av x.1,AdvPDU.av x.2]
theorem scEntry.dec_ok : ∀cs x,scEntry.dec cs=some x→Imp (S:=S) cs (scEntry.enc x):= by
 intro cs x h
 unfold scEntry.dec at h
 obtain ⟨a0,c0,h0,k0⟩:= popA_some (S:=S) Scanner.dec_ok h
 obtain ⟨a1,c1,h1,k1⟩:= popA_some (S:=S) AdvPDU.dec_ok h0
 obtain ⟨rfl,rfl⟩:= popE_some (S:=S) h1
 exact (k0 _ (k1 _ (.refl _)))
def scEntry.nf (s:Scanner) (p:AdvPDU) (v:Address): Prop:=cond (decide ((0:Int)≤pFind s.Params.Identities p.Sender)) (Ob ((0:Int)≤pFind s.Params.Identities p.Sender∧pFind s.Params.Identities p.Sender < (↑(List.length s.Params.Identities): Int))∧(cond (p.Kind==(4:Int)) (scEntry.L ((⟨(IntKind.wrap IntKind.i64 ((List.getD s.Params.Identities (Int.toNat (pFind s.Params.Identities p.Sender)) Identity.zero).Address.Kind+(16:Int))),((List.getD s.Params.Identities (Int.toNat (pFind s.Params.Identities p.Sender)) Identity.zero).Address.Bits)⟩: Address)) v) (scEntry.L ((List.getD s.Params.Identities (Int.toNat (pFind s.Params.Identities p.Sender)) Identity.zero).Address) v))) (cond (p.Kind==(4:Int)) (scEntry.L ((⟨(IntKind.wrap IntKind.i64 (p.Sender.Kind+(16:Int))),(p.Sender.Bits)⟩: Address)) v) (scEntry.L (p.Sender) v))
theorem scEntry.nf_ok (s:Scanner) (p:AdvPDU) (v:Address): evFun (mkCxI Tryz.prog S tab_copied22 0 true sum_fIdx) 4 49 [Scanner.av s,AdvPDU.av p] [] (fun r' H'=>Gives r' H' (scEntry.res v) (scEntry.news v))= scEntry.nf s p v:=by kernel_rfl
theorem scEntry.key (s:Scanner) (p:AdvPDU) (v:Address) (hv:v=scEntry s p): scEntry.nf s p v:=by
 unfold scEntry at hv
 unfold scEntry.nf
 revert hv;refine by_cond2 (fun hb hv=>?_) (fun hb hv=>?_)
 ·refine ⟨⟨by (try clear hv);(try clear q1 q2);(try clear hk);(first | omega | ((try simp only [decide_eq_true_eq,decide_eq_false_iff_not,Bool.not_eq_true,Bool.not_eq_false,Bool.and_eq_true,Bool.or_eq_true,Bool.not_not,cond_and,cond_or,List.length_append,List.length_cons,List.length_nil] at *);(first | done | ((first | omega | (intros;(try simp only [Bool.not_not,cond_and,cond_or,Bool.and_eq_true,decide_eq_true_eq] at *);(refine ⟨?_,pFind_lt _ _⟩;(first | omega | (simp_all;done))))| (intros;(try simp only [Bool.not_not,cond_and,cond_or,Bool.and_eq_true,decide_eq_true_eq] at *);(refine ⟨?_,r9Find_lt _ _⟩;(first | omega | (simp_all;done))))| (intros;(try simp only [Bool.not_not,cond_and,cond_or,Bool.and_eq_true,decide_eq_true_eq] at *);(exact ⟨by decide,by simp⟩))| (intros;(try simp only [Bool.not_not,cond_and,cond_or,Bool.and_eq_true,decide_eq_true_eq] at *);(rw [wu64 _ (by unfold maxI;split <;> omega) (by unfold maxI;split <;> omega)];unfold maxI;split <;> omega))| (intros;(try simp only [Bool.not_not,cond_and,cond_or,Bool.and_eq_true,decide_eq_true_eq] at *);(simp_all [Bool.not_not];omega))| (intros;(try simp only [Bool.not_not,cond_and,cond_or,Bool.and_eq_true,decide_eq_true_eq] at *);(have hf:=pFind_lt ids a;omega))| (intros;(try simp only [Bool.not_not,cond_and,cond_or,Bool.and_eq_true,decide_eq_true_eq] at *);(have hf:=r9Find_lt ids a;omega))| (intros;(try simp only [Bool.not_not,cond_and,cond_or,Bool.and_eq_true,decide_eq_true_eq] at *);(exact band_nn rfl _ _))| (intros;(try simp only [Bool.not_not,cond_and,cond_or,Bool.and_eq_true,decide_eq_true_eq] at *);(exact (wu64s _).2.1))| (intros;(try simp only [Bool.not_not,cond_and,cond_or,Bool.and_eq_true,decide_eq_true_eq] at *);(simp only [Bool.or_eq_false_iff,Bool.and_eq_false_iff,decide_eq_false_iff_not,decide_eq_true_eq,bne_iff_ne,beq_iff_eq,bne_eq_false_iff_eq,beq_eq_false_iff_ne,ne_eq,true_and] at *;omega))| (intros;(try simp only [Bool.not_not,cond_and,cond_or,Bool.and_eq_true,decide_eq_true_eq] at *);(simp only [List.length_drop,List.length_take,List.length_append,List.length_cons,List.length_nil] at *;omega))| (intros;omega)| (intros;simp only [Bool.not_not,cond_and,cond_or,Bool.and_eq_true,decide_eq_true_eq] at *;omega)| (intros;simp_all [Bool.not_not];done))))))⟩, ?_⟩
  revert hv;refine by_cond2 (fun hb hv=>?_) (fun hb hv=>?_)
  ·subst hv;exact ⟨rfl,rfl⟩
  ·subst hv;exact ⟨rfl,rfl⟩
 ·revert hv;refine by_cond2 (fun hb hv=>?_) (fun hb hv=>?_)
  ·subst hv;exact ⟨rfl,rfl⟩
  ·subst hv;exact ⟨rfl,rfl⟩
def scEntry.ct:Ct El:=ctOf scEntry.dec (fun _=>[]) (fun x=>scEntry.res (scEntry x.1 x.2)) (fun x=>scEntry.news (scEntry x.1 x.2))
theorem scEntry.ok:CtOk (mkCx Tryz.prog S [] 0) 49 scEntry.ct:=ct_mk (C:=(mkCxI Tryz.prog S tab_copied22 0 true sum_fIdx)) (mkCxI_ok sigOk mixed tab_copied22_ok 0 true sum_fIdx_ok) scEntry.dec_ok (fun x=>rfl) 4 (fun x _=>(scEntry.nf_ok x.1 x.2 _).mpr (scEntry.key x.1 x.2 _ rfl))
def tab_scEntry:List (FuncId×Ct El):= (49,scEntry.ct):: tab_scIsFor
theorem tab_scEntry_ok:TabOk Tryz.prog S tab_scEntry:=⟨scEntry.ok,by kernel_rfl,tab_scIsFor_ok⟩
def scChannel.res (r:Int×Bool): AV El:=.tup [.v (.int .i64 (r.1)), .v (.bool (r.2))]
def scChannel.news (r:Int×Bool): List (AObj El):= []
def scChannel.L (e v:Int×Bool): Prop:=scChannel.res e=scChannel.res v∧scChannel.news e=scChannel.news v
def scChannel (s:Scanner) (p1:Int): Int×Bool:=cond (bif bif !s.On then true else decide (IntKind.wrap IntKind.i64 (scMoment p1 - s.Start) < (0:Int)) then true else decide (IntKind.wrap IntKind.i64 (s.Params.Interval*(625:Int)) < (1:Int))) (((0:Int),false)) (cond (decide (IntKind.wrap IntKind.i64 (s.Params.Window*(625:Int))≤Int.tmod (IntKind.wrap IntKind.i64 (scMoment p1 - s.Start)) (IntKind.wrap IntKind.i64 (s.Params.Interval*(625:Int))))) (((0:Int),false)) ((IntKind.wrap IntKind.i64 ((37:Int)+ Int.tmod (IntKind.wrap IntKind.i64 (Int.tdiv (IntKind.wrap IntKind.i64 (scMoment p1 - s.Start)) (IntKind.wrap IntKind.i64 (s.Params.Interval*(625:Int))))) (3:Int)),true)))
def scChannel.dec (cs:List (AV El)): Option (Scanner×Int):= popA Scanner.dec cs fun a0 c0=>popI .i64 c0 fun a1 c1=>popE c1 (a0,a1)
def scChannel.enc (x:Scanner×Int): List (AV El):= [Scanner.av x.1, .v (.int .i64 x.2)]
theorem scChannel.dec_ok : ∀cs x,scChannel.dec cs=some x→Imp (S:=S) cs (scChannel.enc x):= by
 intro cs x h
 unfold scChannel.dec at h
 obtain ⟨a0,c0,h0,k0⟩:= popA_some (S:=S) Scanner.dec_ok h
 obtain ⟨a1,c1,rfl,h1⟩:= popI_some (S:=S) h0
 obtain ⟨rfl,rfl⟩:= popE_some (S:=S) h1
 exact (k0 _ (.cons (.refl _)))
def scChannel.nf (s:Scanner) (p1:Int) (v:Int×Bool): Prop:=Ob (o3 (!!s.On))∧(Ob (on (!s.On))∧(Ob (o3 (!bif !s.On then true else decide (IntKind.wrap IntKind.i64 (scMoment p1 - s.Start) < (0:Int))))∧(Ob (on (bif !s.On then true else decide (IntKind.wrap IntKind.i64 (scMoment p1 - s.Start) < (0:Int))))∧(cond (bif bif !s.On then true else decide (IntKind.wrap IntKind.i64 (scMoment p1 - s.Start) < (0:Int)) then true else decide (IntKind.wrap IntKind.i64 (s.Params.Interval*(625:Int)) < (1:Int))) (scChannel.L (((0:Int),false)) v) (Ob (IntKind.wrap IntKind.i64 (s.Params.Interval*(625:Int))≠(0:Int))∧(cond (decide (IntKind.wrap IntKind.i64 (s.Params.Window*(625:Int))≤Int.tmod (IntKind.wrap IntKind.i64 (scMoment p1 - s.Start)) (IntKind.wrap IntKind.i64 (s.Params.Interval*(625:Int))))) (scChannel.L (((0:Int),false)) v) (Ob (IntKind.wrap IntKind.i64 (s.Params.Interval*(625:Int))≠(0:Int))∧(Ob ((3:Int)≠(0:Int))∧(scChannel.L ((IntKind.wrap IntKind.i64 ((37:Int)+ Int.tmod (IntKind.wrap IntKind.i64 (Int.tdiv (IntKind.wrap IntKind.i64 (scMoment p1 - s.Start)) (IntKind.wrap IntKind.i64 (s.Params.Interval*(625:Int))))) (3:Int)),true)) v)))))))))
theorem scChannel.nf_ok (s:Scanner) (p1:Int) (v:Int×Bool): evFun (mkCxI Tryz.prog S tab_copied22 0 true sum_fIdx) 4 19 [Scanner.av s, .v (.int .i64 p1)] [] (fun r' H'=>Gives r' H' (scChannel.res v) (scChannel.news v))= scChannel.nf s p1 v:=by kernel_rfl
theorem scChannel.key (s:Scanner) (p1:Int) (v:Int×Bool) (hv:v=scChannel s p1): scChannel.nf s p1 v:=by
 unfold scChannel at hv
 unfold scChannel.nf
 refine ⟨⟨o3_ok _⟩, ?_⟩
 refine ⟨⟨on_ok _⟩, ?_⟩
 refine ⟨⟨o3_ok _⟩, ?_⟩
 refine ⟨⟨on_ok _⟩, ?_⟩
 revert hv;refine by_cond2 (fun hb hv=>?_) (fun hb hv=>?_)
 subst hv;exact ⟨rfl,rfl⟩
 refine ⟨⟨?_⟩, ?_⟩;rotate_left
 revert hv;refine by_cond2 (fun hb hv=>?_) (fun hb hv=>?_)
 subst hv;exact ⟨rfl,rfl⟩
 refine ⟨⟨?_⟩, ?_⟩;rotate_left
 refine ⟨⟨by (try clear hv);(try clear q1 q2);(try clear hk);(first | omega | ((try simp only [decide_eq_true_eq,decide_eq_false_iff_not,Bool.not_eq_true,Bool.not_eq_false,Bool.and_eq_true,Bool.or_eq_true,Bool.not_not,cond_and,cond_or,List.length_append,List.length_cons,List.length_nil] at *);(first | done | ((first | omega | (intros;(try simp only [Bool.not_not,cond_and,cond_or,Bool.and_eq_true,decide_eq_true_eq] at *);(refine ⟨?_,pFind_lt _ _⟩;(first | omega | (simp_all;done))))| (intros;(try simp only [Bool.not_not,cond_and,cond_or,Bool.and_eq_true,decide_eq_true_eq] at *);(refine ⟨?_,r9Find_lt _ _⟩;(first | omega | (simp_all;done))))| (intros;(try simp only [Bool.not_not,cond_and,cond_or,Bool.and_eq_true,decide_eq_true_eq] at *);(exact ⟨by decide,by simp⟩))| (intros;(try simp only [Bool.not_not,cond_and,cond_or,Bool.and_eq_true,decide_eq_true_eq] at *);(rw [wu64 _ (by unfold maxI;split <;> omega) (by unfold maxI;split <;> omega)];unfold maxI;split <;> omega))| (intros;(try simp only [Bool.not_not,cond_and,cond_or,Bool.and_eq_true,decide_eq_true_eq] at *);(simp_all [Bool.not_not];omega))| (intros;(try simp only [Bool.not_not,cond_and,cond_or,Bool.and_eq_true,decide_eq_true_eq] at *);(have hf:=pFind_lt ids a;omega))| (intros;(try simp only [Bool.not_not,cond_and,cond_or,Bool.and_eq_true,decide_eq_true_eq] at *);(have hf:=r9Find_lt ids a;omega))| (intros;(try simp only [Bool.not_not,cond_and,cond_or,Bool.and_eq_true,decide_eq_true_eq] at *);(exact band_nn rfl _ _))| (intros;(try simp only [Bool.not_not,cond_and,cond_or,Bool.and_eq_true,decide_eq_true_eq] at *);(exact (wu64s _).2.1))| (intros;(try simp only [Bool.not_not,cond_and,cond_or,Bool.and_eq_true,decide_eq_true_eq] at *);(simp only [Bool.or_eq_false_iff,Bool.and_eq_false_iff,decide_eq_false_iff_not,decide_eq_true_eq,bne_iff_ne,beq_iff_eq,bne_eq_false_iff_eq,beq_eq_false_iff_ne,ne_eq,true_and] at *;omega))| (intros;(try simp only [Bool.not_not,cond_and,cond_or,Bool.and_eq_true,decide_eq_true_eq] at *);(simp only [List.length_drop,List.length_take,List.length_append,List.length_cons,List.length_nil] at *;omega))| (intros;omega)| (intros;simp only [Bool.not_not,cond_and,cond_or,Bool.and_eq_true,decide_eq_true_eq] at *;omega)| (intros;simp_all [Bool.not_not];done))))))⟩, ?_⟩
 subst hv;exact ⟨rfl,rfl⟩
 all_goals ((try clear hv);(try clear q1 q2);(try clear hk);(first | omega | ((try simp only [decide_eq_true_eq,decide_eq_false_iff_not,Bool.not_eq_true,Bool.not_eq_false,Bool.and_eq_true,Bool.or_eq_true,Bool.not_not,cond_and,cond_or,List.length_append,List.length_cons,List.length_nil] at *);(first | done | (have:=wi64s (s.Params.Interval*(625:Int));(first | omega | (intros;(try simp only [Bool.not_not,cond_and,cond_or,Bool.and_eq_true,decide_eq_true_eq] at *);(refine ⟨?_,pFind_lt _ _⟩;(first | omega | (simp_all;done))))| (intros;(try simp only [Bool.not_not,cond_and,cond_or,Bool.and_eq_true,decide_eq_true_eq] at *);(refine ⟨?_,r9Find_lt _ _⟩;(first | omega | (simp_all;done))))| (intros;(try simp only [Bool.not_not,cond_and,cond_or,Bool.and_eq_true,decide_eq_true_eq] at *);(exact ⟨by decide,by simp⟩))| (intros;(try simp only [Bool.not_not,cond_and,cond_or,Bool.and_eq_true,decide_eq_true_eq] at *);(rw [wu64 _ (by unfold maxI;split <;> omega) (by unfold maxI;split <;> omega)];unfold maxI;split <;> omega))| (intros;(try simp only [Bool.not_not,cond_and,cond_or,Bool.and_eq_true,decide_eq_true_eq] at *);(simp_all [Bool.not_not];omega))| (intros;(try simp only [Bool.not_not,cond_and,cond_or,Bool.and_eq_true,decide_eq_true_eq] at *);(have hf:=pFind_lt ids a;omega))| (intros;(try simp only [Bool.not_not,cond_and,cond_or,Bool.and_eq_true,decide_eq_true_eq] at *);(have hf:=r9Find_lt ids a;omega))| (intros;(try simp only [Bool.not_not,cond_and,cond_or,Bool.and_eq_true,decide_eq_true_eq] at *);(exact band_nn rfl _ _))| (intros;(try simp only [Bool.not_not,cond_and,cond_or,Bool.and_eq_true,decide_eq_true_eq] at *);(exact (wu64s _).2.1))| (intros;(try simp only [Bool.not_not,cond_and,cond_or,Bool.and_eq_true,decide_eq_true_eq] at *);(simp only [Bool.or_eq_false_iff,Bool.and_eq_false_iff,decide_eq_false_iff_not,decide_eq_true_eq,bne_iff_ne,beq_iff_eq,bne_eq_false_iff_eq,beq_eq_false_iff_ne,ne_eq,true_and] at *;omega))| (intros;(try simp only [Bool.not_not,cond_and,cond_or,Bool.and_eq_true,decide_eq_true_eq] at *);(simp only [List.length_drop,List.length_take,List.length_append,List.length_cons,List.length_nil] at *;omega))| (intros;omega)| (intros;simp only [Bool.not_not,cond_and,cond_or,Bool.and_eq_true,decide_eq_true_eq] at *;omega)| (intros;simp_all [Bool.not_not];done)))))))
def scChannel.ct:Ct El:=ctOf scChannel.dec (fun _=>[]) (fun x=>scChannel.res (scChannel x.1 x.2)) (fun x=>scChannel.news (scChannel x.1 x.2))
theorem scChannel.ok:CtOk (mkCx Tryz.prog S [] 0) 19 scChannel.ct:=ct_mk (C:=(mkCxI Tryz.prog S tab_copied22 0 true sum_fIdx)) (mkCxI_ok sigOk mixed tab_copied22_ok 0 true sum_fIdx_ok) scChannel.dec_ok (fun x=>rfl) 4 (fun x _=>(scChannel.nf_ok x.1 x.2 _).mpr (scChannel.key x.1 x.2 _ rfl))
def tab_scChannel:List (FuncId×Ct El):= (19,scChannel.ct):: tab_scEntry
theorem tab_scChannel_ok:TabOk Tryz.prog S tab_scChannel:=⟨scChannel.ok,by kernel_rfl,tab_scEntry_ok⟩
def r22name.res (r:Address): AV El:=Address.av (r)
def r22name.news (r:Address): List (AObj El):= []
def r22name.L (e v:Address): Prop:=r22name.res e=r22name.res v∧r22name.news e=r22name.news v
def r22name (ids:List Identity) (a:Address): Address:=cond (decide ((0:Int)≤r9Find ids a)) ((List.getD ids (Int.toNat (r9Find ids a)) Identity.zero).Address) (a)
def r22name.dec (cs:List (AV El)): Option ((List Identity)×Address):= popS 88 cs fun a0 c0=>popA Address.dec c0 fun a1 c1=>popE c1 (a0,a1)
def r22name.enc (x:(List Identity)×Address): List (AV El):= [.sl 88 (x.1:List (El 88)) false,Address.av x.2]
theorem r22name.dec_ok : ∀cs x,r22name.dec cs=some x→Imp (S:=S) cs (r22name.enc x):= by
 intro cs x h
 unfold r22name.dec at h
 obtain ⟨a0,c0,h0,k0⟩:= popS_some (S:=S) (t:=88) h
 obtain ⟨a1,c1,h1,k1⟩:= popA_some (S:=S) Address.dec_ok h0
 obtain ⟨rfl,rfl⟩:= popE_some (S:=S) h1
 exact (k0 _ (k1 _ (.refl _)))
def r22name.nf (ids:List Identity) (a:Address) (v:Address): Prop:=cond (decide ((0:Int)≤r9Find ids a)) (Ob ((0:Int)≤r9Find ids a∧r9Find ids a < (↑(List.length ids): Int))∧(r22name.L ((List.getD ids (Int.toNat (r9Find ids a)) Identity.zero).Address) v)) (r22name.L (a) v)
theorem r22name.nf_ok (ids:List Identity) (a:Address) (v:Address): evFun (mkCxI Tryz.prog S tab_copied22 0 true sum_fIdx) 4 66 [.sl 88 (ids:List (El 88)) false,Address.av a] [] (fun r' H'=>Gives r' H' (r22name.res v) (r22name.news v))= r22name.nf ids a v:=by kernel_rfl
theorem r22name.key (ids:List Identity) (a:Address) (v:Address) (hv:v=r22name ids a): r22name.nf ids a v:=by
 unfold r22name at hv
 unfold r22name.nf
 revert hv;refine by_cond2 (fun hb hv=>?_) (fun hb hv=>?_)
 ·refine ⟨⟨by (try clear hv);(try clear q1 q2);(try clear hk);(first | omega | ((try simp only [decide_eq_true_eq,decide_eq_false_iff_not,Bool.not_eq_true,Bool.not_eq_false,Bool.and_eq_true,Bool.or_eq_true,Bool.not_not,cond_and,cond_or,List.length_append,List.length_cons,List.length_nil] at *);(first | done | ((first | omega | (intros;(try simp only [Bool.not_not,cond_and,cond_or,Bool.and_eq_true,decide_eq_true_eq] at *);(refine ⟨?_,pFind_lt _ _⟩;(first | omega | (simp_all;done))))| (intros;(try simp only [Bool.not_not,cond_and,cond_or,Bool.and_eq_true,decide_eq_true_eq] at *);(refine ⟨?_,r9Find_lt _ _⟩;(first | omega | (simp_all;done))))| (intros;(try simp only [Bool.not_not,cond_and,cond_or,Bool.and_eq_true,decide_eq_true_eq] at *);(exact ⟨by decide,by simp⟩))| (intros;(try simp only [Bool.not_not,cond_and,cond_or,Bool.and_eq_true,decide_eq_true_eq] at *);(rw [wu64 _ (by unfold maxI;split <;> omega) (by unfold maxI;split <;> omega)];unfold maxI;split <;> omega))| (intros;(try simp only [Bool.not_not,cond_and,cond_or,Bool.and_eq_true,decide_eq_true_eq] at *);(simp_all [Bool.not_not];omega))| (intros;(try simp only [Bool.not_not,cond_and,cond_or,Bool.and_eq_true,decide_eq_true_eq] at *);(have hf:=pFind_lt ids a;omega))| (intros;(try simp only [Bool.not_not,cond_and,cond_or,Bool.and_eq_true,decide_eq_true_eq] at *);(have hf:=r9Find_lt ids a;omega))| (intros;(try simp only [Bool.not_not,cond_and,cond_or,Bool.and_eq_true,decide_eq_true_eq] at *);(exact band_nn rfl _ _))| (intros;(try simp only [Bool.not_not,cond_and,cond_or,Bool.and_eq_true,decide_eq_true_eq] at *);(exact (wu64s _).2.1))| (intros;(try simp only [Bool.not_not,cond_and,cond_or,Bool.and_eq_true,decide_eq_true_eq] at *);(simp only [Bool.or_eq_false_iff,Bool.and_eq_false_iff,decide_eq_false_iff_not,decide_eq_true_eq,bne_iff_ne,beq_iff_eq,bne_eq_false_iff_eq,beq_eq_false_iff_ne,ne_eq,true_and] at *;omega))| (intros;(try simp only [Bool.not_not,cond_and,cond_or,Bool.and_eq_true,decide_eq_true_eq] at *);(simp only [List.length_drop,List.length_take,List.length_append,List.length_cons,List.length_nil] at *;omega))| (intros;omega)| (intros;simp only [Bool.not_not,cond_and,cond_or,Bool.and_eq_true,decide_eq_true_eq] at *;omega)| (intros;simp_all [Bool.not_not];done))))))⟩, ?_⟩
  subst hv;exact ⟨rfl,rfl⟩
 ·subst hv;exact ⟨rfl,rfl⟩
def r22name.ct:Ct El:=ctOf r22name.dec (fun _=>[]) (fun x=>r22name.res (r22name x.1 x.2)) (fun x=>r22name.news (r22name x.1 x.2))
theorem r22name.ok:CtOk (mkCx Tryz.prog S [] 0) 66 r22name.ct:=ct_mk (C:=(mkCxI Tryz.prog S tab_copied22 0 true sum_fIdx)) (mkCxI_ok sigOk mixed tab_copied22_ok 0 true sum_fIdx_ok) r22name.dec_ok (fun x=>rfl) 4 (fun x _=>(r22name.nf_ok x.1 x.2 _).mpr (r22name.key x.1 x.2 _ rfl))
def tab_r22name:List (FuncId×Ct El):= (66,r22name.ct):: tab_scChannel
theorem tab_r22name_ok:TabOk Tryz.prog S tab_r22name:=⟨r22name.ok,by kernel_rfl,tab_scChannel_ok⟩
def r22Same.res (r:Bool): AV El:=.v (.bool (r))
def r22Same.news (r:Bool): List (AObj El):= []
def r22Same.L (e v:Bool): Prop:=r22Same.res e=r22Same.res v∧r22Same.news e=r22Same.news v
def r22Same (a:Scanner) (b:Scanner): Bool:=cond (bif bif bif bif bif a.Params.Interval != b.Params.Interval then true else a.Params.Window != b.Params.Window then true else !a.Params.Active==b.Params.Active then true else a.Params.Policy != b.Params.Policy then true else !(a.Params.Own.Kind==b.Params.Own.Kind && a.Params.Own.Bits==b.Params.Own.Bits) then true else !a.Params.Unique==b.Params.Unique) (false) (cond (bif bif !r20Same a.Params.Accept b.Params.Accept then true else !r21SameIds a.Params.Identities b.Params.Identities then true else !r20Same a.Seen b.Seen) (false) (bif bif bif bif bif bif bif a.On==b.On then a.Start==b.Start else false then a.Upper==b.Upper else false then a.Count==b.Count else false then a.Fails==b.Fails else false then a.Wins==b.Wins else false then a.Wait.Kind==b.Wait.Kind && a.Wait.Bits==b.Wait.Bits else false then a.Seed==b.Seed else false))
def r22Same.dec (cs:List (AV El)): Option (Scanner×Scanner):= popA Scanner.dec cs fun a0 c0=>popA Scanner.dec c0 fun a1 c1=>popE c1 (a0,a1)
def r22Same.enc (x:Scanner×Scanner): List (AV El):= [Scanner.av x.1,Scanner.av x.2]
theorem r22Same.dec_ok : ∀cs x,r22Same.dec cs=some x→Imp (S:=S) cs (r22Same.enc x):= by
 intro cs x h
 unfold r22Same.dec at h
 obtain ⟨a0,c0,h0,k0⟩:= popA_some (S:=S) Scanner.dec_ok h
 obtain ⟨a1,c1,h1,k1⟩:= popA_some (S:=S) Scanner.dec_ok h0
 obtain ⟨rfl,rfl⟩:= popE_some (S:=S) h1
 exact (k0 _ (k1 _ (.refl _)))
def r22Same.nf (a:Scanner) (b:Scanner) (v:Bool): Prop:=Ob (o3 (!a.Params.Interval != b.Params.Interval))∧(Ob (o3 (!a.Params.Interval != b.Params.Interval))∧(Ob (o3 (!a.Params.Interval != b.Params.Interval))∧(Ob (o3 (!a.Params.Interval != b.Params.Interval))∧(Ob (on (a.Params.Interval != b.Params.Interval))∧(Ob (o3 (!bif a.Params.Interval != b.Params.Interval then true else a.Params.Window != b.Params.Window))∧(Ob (o3 (!bif a.Params.Interval != b.Params.Interval then true else a.Params.Window != b.Params.Window))∧(Ob (o3 (!bif a.Params.Interval != b.Params.Interval then true else a.Params.Window != b.Params.Window))∧(Ob (o3 (!bif a.Params.Interval != b.Params.Interval then true else a.Params.Window != b.Params.Window))∧(Ob (on (bif a.Params.Interval != b.Params.Interval then true else a.Params.Window != b.Params.Window))∧(Ob (o3 (!bif bif a.Params.Interval != b.Params.Interval then true else a.Params.Window != b.Params.Window then true else !a.Params.Active==b.Params.Active))∧(Ob (o3 (!bif bif a.Params.Interval != b.Params.Interval then true else a.Params.Window != b.Params.Window then true else !a.Params.Active==b.Params.Active))∧(Ob (o3 (!bif bif a.Params.Interval != b.Params.Interval then true else a.Params.Window != b.Params.Window then true else !a.Params.Active==b.Params.Active))∧(Ob (o3 (!bif bif a.Params.Interval != b.Params.Interval then true else a.Params.Window != b.Params.Window then true else !a.Params.Active==b.Params.Active))∧(Ob (on (bif bif a.Params.Interval != b.Params.Interval then true else a.Params.Window != b.Params.Window then true else !a.Params.Active==b.Params.Active))∧(Ob (o3 (!bif bif bif a.Params.Interval != b.Params.Interval then true else a.Params.Window != b.Params.Window then true else !a.Params.Active==b.Params.Active then true else a.Params.Policy != b.Params.Policy))∧(Ob (o3 (!bif bif bif a.Params.Interval != b.Params.Interval then true else a.Params.Window != b.Params.Window then true else !a.Params.Active==b.Params.Active then true else a.Params.Policy != b.Params.Policy))∧(Ob (o3 (!bif bif bif a.Params.Interval != b.Params.Interval then true else a.Params.Window != b.Params.Window then true else !a.Params.Active==b.Params.Active then true else a.Params.Policy != b.Params.Policy))∧(Ob (o3 (!bif bif bif a.Params.Interval != b.Params.Interval then true else a.Params.Window != b.Params.Window then true else !a.Params.Active==b.Params.Active then true else a.Params.Policy != b.Params.Policy))∧(Ob (on (bif bif bif a.Params.Interval != b.Params.Interval then true else a.Params.Window != b.Params.Window then true else !a.Params.Active==b.Params.Active then true else a.Params.Policy != b.Params.Policy))∧(Ob (o3 (!bif bif bif bif a.Params.Interval != b.Params.Interval then true else a.Params.Window != b.Params.Window then true else !a.Params.Active==b.Params.Active then true else a.Params.Policy != b.Params.Policy then true else !(a.Params.Own.Kind==b.Params.Own.Kind && a.Params.Own.Bits==b.Params.Own.Bits)))∧(Ob (o3 (!bif bif bif bif a.Params.Interval != b.Params.Interval then true else a.Params.Window != b.Params.Window then true else !a.Params.Active==b.Params.Active then true else a.Params.Policy != b.Params.Policy then true else !(a.Params.Own.Kind==b.Params.Own.Kind && a.Params.Own.Bits==b.Params.Own.Bits)))∧(Ob (o3 (!bif bif bif bif a.Params.Interval != b.Params.Interval then true else a.Params.Window != b.Params.Window then true else !a.Params.Active==b.Params.Active then true else a.Params.Policy != b.Params.Policy then true else !(a.Params.Own.Kind==b.Params.Own.Kind && a.Params.Own.Bits==b.Params.Own.Bits)))∧(Ob (o3 (!bif bif bif bif a.Params.Interval != b.Params.Interval then true else a.Params.Window != b.Params.Window then true else !a.Params.Active==b.Params.Active then true else a.Params.Policy != b.Params.Policy then true else !(a.Params.Own.Kind==b.Params.Own.Kind && a.Params.Own.Bits==b.Params.Own.Bits)))∧(Ob (on (bif bif bif bif a.Params.Interval != b.Params.Interval then true else a.Params.Window != b.Params.Window then true else !a.Params.Active==b.Params.Active then true else a.Params.Policy != b.Params.Policy then true else !(a.Params.Own.Kind==b.Params.Own.Kind && a.Params.Own.Bits==b.Params.Own.Bits)))∧(cond (bif bif bif bif bif a.Params.Interval != b.Params.Interval then true else a.Params.Window != b.Params.Window then true else !a.Params.Active==b.Params.Active then true else a.Params.Policy != b.Params.Policy then true else !(a.Params.Own.Kind==b.Params.Own.Kind && a.Params.Own.Bits==b.Params.Own.Bits) then true else !a.Params.Unique==b.Params.Unique) (r22Same.L (false) v) (Ob (o3 (!!r20Same a.Params.Accept b.Params.Accept))∧(Ob (o3 (!!r20Same a.Params.Accept b.Params.Accept))∧(Ob (o3 (!!r20Same a.Params.Accept b.Params.Accept))∧(Ob (o3 (!!r20Same a.Params.Accept b.Params.Accept))∧(Ob (o3 (!!r20Same a.Params.Accept b.Params.Accept))∧(Ob (on (!r20Same a.Params.Accept b.Params.Accept))∧(Ob (o3 (!bif !r20Same a.Params.Accept b.Params.Accept then true else !r21SameIds a.Params.Identities b.Params.Identities))∧(Ob (o3 (!bif !r20Same a.Params.Accept b.Params.Accept then true else !r21SameIds a.Params.Identities b.Params.Identities))∧(Ob (o3 (!bif !r20Same a.Params.Accept b.Params.Accept then true else !r21SameIds a.Params.Identities b.Params.Identities))∧(Ob (o3 (!bif !r20Same a.Params.Accept b.Params.Accept then true else !r21SameIds a.Params.Identities b.Params.Identities))∧(Ob (o3 (!bif !r20Same a.Params.Accept b.Params.Accept then true else !r21SameIds a.Params.Identities b.Params.Identities))∧(Ob (on (bif !r20Same a.Params.Accept b.Params.Accept then true else !r21SameIds a.Params.Identities b.Params.Identities))∧(cond (bif bif !r20Same a.Params.Accept b.Params.Accept then true else !r21SameIds a.Params.Identities b.Params.Identities then true else !r20Same a.Seen b.Seen) (r22Same.L (false) v) (Ob (o3 (a.On==b.On))∧(Ob (o3 (a.On==b.On))∧(Ob (o3 (a.On==b.On))∧(Ob (o3 (a.On==b.On))∧(Ob (o2 (a.On==b.On))∧(Ob (o3 (bif a.On==b.On then a.Start==b.Start else false))∧(Ob (o3 (bif a.On==b.On then a.Start==b.Start else false))∧(Ob (o3 (bif a.On==b.On then a.Start==b.Start else false))∧(Ob (o3 (bif a.On==b.On then a.Start==b.Start else false))∧(Ob (o2 (bif a.On==b.On then a.Start==b.Start else false))∧(Ob (o3 (bif bif a.On==b.On then a.Start==b.Start else false then a.Upper==b.Upper else false))∧(Ob (o3 (bif bif a.On==b.On then a.Start==b.Start else false then a.Upper==b.Upper else false))∧(Ob (o3 (bif bif a.On==b.On then a.Start==b.Start else false then a.Upper==b.Upper else false))∧(Ob (o3 (bif bif a.On==b.On then a.Start==b.Start else false then a.Upper==b.Upper else false))∧(Ob (o2 (bif bif a.On==b.On then a.Start==b.Start else false then a.Upper==b.Upper else false))∧(Ob (o3 (bif bif bif a.On==b.On then a.Start==b.Start else false then a.Upper==b.Upper else false then a.Count==b.Count else false))∧(Ob (o3 (bif bif bif a.On==b.On then a.Start==b.Start else false then a.Upper==b.Upper else false then a.Count==b.Count else false))∧(Ob (o3 (bif bif bif a.On==b.On then a.Start==b.Start else false then a.Upper==b.Upper else false then a.Count==b.Count else false))∧(Ob (o3 (bif bif bif a.On==b.On then a.Start==b.Start else false then a.Upper==b.Upper else false then a.Count==b.Count else false))∧(Ob (o2 (bif bif bif a.On==b.On then a.Start==b.Start else false then a.Upper==b.Upper else false then a.Count==b.Count else false))∧(Ob (o3 (bif bif bif bif a.On==b.On then a.Start==b.Start else false then a.Upper==b.Upper else false then a.Count==b.Count else false then a.Fails==b.Fails else false))∧(Ob (o3 (bif bif bif bif a.On==b.On then a.Start==b.Start else false then a.Upper==b.Upper else false then a.Count==b.Count else false then a.Fails==b.Fails else false))∧(Ob (o3 (bif bif bif bif a.On==b.On then a.Start==b.Start else false then a.Upper==b.Upper else false then a.Count==b.Count else false then a.Fails==b.Fails else false))∧(Ob (o3 (bif bif bif bif a.On==b.On then a.Start==b.Start else false then a.Upper==b.Upper else false then a.Count==b.Count else false then a.Fails==b.Fails else false))∧(Ob (o2 (bif bif bif bif a.On==b.On then a.Start==b.Start else false then a.Upper==b.Upper else false then a.Count==b.Count else false then a.Fails==b.Fails else false))∧(Ob (o3 (bif bif bif bif bif a.On==b.On then a.Start==b.Start else false then a.Upper==b.Upper else false then a.Count==b.Count else false then a.Fails==b.Fails else false then a.Wins==b.Wins else false))∧(Ob (o3 (bif bif bif bif bif a.On==b.On then a.Start==b.Start else false then a.Upper==b.Upper else false then a.Count==b.Count else false then a.Fails==b.Fails else false then a.Wins==b.Wins else false))∧(Ob (o3 (bif bif bif bif bif a.On==b.On then a.Start==b.Start else false then a.Upper==b.Upper else false then a.Count==b.Count else false then a.Fails==b.Fails else false then a.Wins==b.Wins else false))∧(Ob (o3 (bif bif bif bif bif a.On==b.On then a.Start==b.Start else false then a.Upper==b.Upper else false then a.Count==b.Count else false then a.Fails==b.Fails else false then a.Wins==b.Wins else false))∧(Ob (o2 (bif bif bif bif bif a.On==b.On then a.Start==b.Start else false then a.Upper==b.Upper else false then a.Count==b.Count else false then a.Fails==b.Fails else false then a.Wins==b.Wins else false))∧(Ob (o3 (bif bif bif bif bif bif a.On==b.On then a.Start==b.Start else false then a.Upper==b.Upper else false then a.Count==b.Count else false then a.Fails==b.Fails else false then a.Wins==b.Wins else false then a.Wait.Kind==b.Wait.Kind && a.Wait.Bits==b.Wait.Bits else false))∧(Ob (o3 (bif bif bif bif bif bif a.On==b.On then a.Start==b.Start else false then a.Upper==b.Upper else false then a.Count==b.Count else false then a.Fails==b.Fails else false then a.Wins==b.Wins else false then a.Wait.Kind==b.Wait.Kind && a.Wait.Bits==b.Wait.Bits else false))∧(Ob (o3 (bif bif bif bif bif bif a.On==b.On then a.Start==b.Start else false then a.Upper==b.Upper else false then a.Count==b.Count else false then a.Fails==b.Fails else false then a.Wins==b.Wins else false then a.Wait.Kind==b.Wait.Kind && a.Wait.Bits==b.Wait.Bits else false))∧(Ob (o3 (bif bif bif bif bif bif a.On==b.On then a.Start==b.Start else false then a.Upper==b.Upper else false then a.Count==b.Count else false then a.Fails==b.Fails else false then a.Wins==b.Wins else false then a.Wait.Kind==b.Wait.Kind && a.Wait.Bits==b.Wait.Bits else false))∧(Ob (o2 (bif bif bif bif bif bif a.On==b.On then a.Start==b.Start else false then a.Upper==b.Upper else false then a.Count==b.Count else false then a.Fails==b.Fails else false then a.Wins==b.Wins else false then a.Wait.Kind==b.Wait.Kind && a.Wait.Bits==b.Wait.Bits else false))∧(r22Same.L (bif bif bif bif bif bif bif a.On==b.On then a.Start==b.Start else false then a.Upper==b.Upper else false then a.Count==b.Count else false then a.Fails==b.Fails else false then a.Wins==b.Wins else false then a.Wait.Kind==b.Wait.Kind && a.Wait.Bits==b.Wait.Bits else false then a.Seed==b.Seed else false) v))))))))))))))))))))))))))))))))))))))))))))))))))))))))))))))))))))))))))
theorem r22Same.nf_ok (a:Scanner) (b:Scanner) (v:Bool): evFun (mkCxI Tryz.prog S tab_copied22 0 true sum_fIdx) 4 18 [Scanner.av a,Scanner.av b] [] (fun r' H'=>Gives r' H' (r22Same.res v) (r22Same.news v))= r22Same.nf a b v:=by kernel_rfl
theorem r22Same.key (a:Scanner) (b:Scanner) (v:Bool) (hv:v=r22Same a b): r22Same.nf a b v:=by
 unfold r22Same at hv
 unfold r22Same.nf
 iterate 4 refine ⟨⟨o3_ok _⟩, ?_⟩
 refine ⟨⟨on_ok _⟩, ?_⟩
 iterate 4 refine ⟨⟨o3_ok _⟩, ?_⟩
 refine ⟨⟨on_ok _⟩, ?_⟩
 iterate 4 refine ⟨⟨o3_ok _⟩, ?_⟩
 refine ⟨⟨on_ok _⟩, ?_⟩
 iterate 4 refine ⟨⟨o3_ok _⟩, ?_⟩
 refine ⟨⟨on_ok _⟩, ?_⟩
 iterate 4 refine ⟨⟨o3_ok _⟩, ?_⟩
 refine ⟨⟨on_ok _⟩, ?_⟩
 revert hv;refine by_cond2 (fun hb hv=>?_) (fun hb hv=>?_)
 ·subst hv;exact ⟨rfl,rfl⟩
 ·refine ⟨⟨o3_ok _⟩, ?_⟩
  iterate 4 refine ⟨⟨o3_ok _⟩, ?_⟩
  refine ⟨⟨on_ok _⟩, ?_⟩
  iterate 5 refine ⟨⟨o3_ok _⟩, ?_⟩
  refine ⟨⟨on_ok _⟩, ?_⟩
  revert hv;refine by_cond2 (fun hb hv=>?_) (fun hb hv=>?_)
  ·subst hv;exact ⟨rfl,rfl⟩
  ·refine ⟨⟨o3_ok _⟩, ?_⟩
   iterate 3 refine ⟨⟨o3_ok _⟩, ?_⟩
   refine ⟨⟨o2_ok _⟩, ?_⟩
   iterate 4 refine ⟨⟨o3_ok _⟩, ?_⟩
   refine ⟨⟨o2_ok _⟩, ?_⟩
   iterate 4 refine ⟨⟨o3_ok _⟩, ?_⟩
   refine ⟨⟨o2_ok _⟩, ?_⟩
   iterate 4 refine ⟨⟨o3_ok _⟩, ?_⟩
   refine ⟨⟨o2_ok _⟩, ?_⟩
   iterate 4 refine ⟨⟨o3_ok _⟩, ?_⟩
   refine ⟨⟨o2_ok _⟩, ?_⟩
   iterate 4 refine ⟨⟨o3_ok _⟩, ?_⟩
   refine ⟨⟨o2_ok _⟩, ?_⟩
   iterate 4 refine ⟨⟨o3_ok _⟩, ?_⟩
   refine ⟨⟨o2_ok _⟩, ?_⟩
   subst hv;exact ⟨rfl,rfl⟩
def r22Same.ct:Ct El:=ctOf r22Same.dec (fun _=>[]) (fun x=>r22Same.res (r22Same x.1 x.2)) (fun x=>r22Same.news (r22Same x.1 x.2))
theorem r22Same.ok:CtOk (mkCx Tryz.prog S [] 0) 18 r22Same.ct:=ct_mk (C:=(mkCxI Tryz.prog S tab_copied22 0 true sum_fIdx)) (mkCxI_ok sigOk mixed tab_copied22_ok 0 true sum_fIdx_ok) r22Same.dec_ok (fun x=>rfl) 4 (fun x _=>(r22Same.nf_ok x.1 x.2 _).mpr (r22Same.key x.1 x.2 _ rfl))
def tab_r22Same:List (FuncId×Ct El):= (18,r22Same.ct):: tab_r22name
theorem tab_r22Same_ok:TabOk Tryz.prog S tab_r22Same:=⟨r22Same.ok,by kernel_rfl,tab_r22name_ok⟩
def r22Start.res (r:Scanner×Int): AV El:=.tup [Scanner.av (r.1), .v (.int .i64 (r.2))]
def r22Start.news (r:Scanner×Int): List (AObj El):= []
def r22Start.L (e v:Scanner×Int): Prop:=r22Start.res e=r22Start.res v∧r22Start.news e=r22Start.news v
def r22Start (p:ScanParams) (seed:Int) (p2:Int): Scanner×Int:=cond (bif bif bif decide (p.Interval < (4:Int)) then true else decide ((16384:Int) < p.Interval) then true else decide (p.Window < (4:Int)) then true else decide ((16384:Int) < p.Window)) (((⟨⟨((0:Int)),((0:Int)),(false),((0:Int)),([]),([]),⟨((0:Int)),((0:Int))⟩,(false)⟩,(false),((0:Int)),((0:Int)),((0:Int)),((0:Int)),((0:Int)),⟨((0:Int)),((0:Int))⟩,([]),((0:Int))⟩: Scanner),(5:Int))) (cond (decide (p.Interval < p.Window)) (((⟨⟨((0:Int)),((0:Int)),(false),((0:Int)),([]),([]),⟨((0:Int)),((0:Int))⟩,(false)⟩,(false),((0:Int)),((0:Int)),((0:Int)),((0:Int)),((0:Int)),⟨((0:Int)),((0:Int))⟩,([]),((0:Int))⟩: Scanner),(11:Int))) (cond (bif p.Policy != (0:Int) then p.Policy != (1:Int) else false) (((⟨⟨((0:Int)),((0:Int)),(false),((0:Int)),([]),([]),⟨((0:Int)),((0:Int))⟩,(false)⟩,(false),((0:Int)),((0:Int)),((0:Int)),((0:Int)),((0:Int)),⟨((0:Int)),((0:Int))⟩,([]),((0:Int))⟩: Scanner),(5:Int))) (cond (bif decide ((64:Int) < (↑(List.length p.Accept): Int)) then true else decide ((64:Int) < (↑(List.length p.Identities): Int))) (((⟨⟨((0:Int)),((0:Int)),(false),((0:Int)),([]),([]),⟨((0:Int)),((0:Int))⟩,(false)⟩,(false),((0:Int)),((0:Int)),((0:Int)),((0:Int)),((0:Int)),⟨((0:Int)),((0:Int))⟩,([]),((0:Int))⟩: Scanner),(4:Int))) (cond (r8Check p.Own != (0:Int)) (((⟨⟨((0:Int)),((0:Int)),(false),((0:Int)),([]),([]),⟨((0:Int)),((0:Int))⟩,(false)⟩,(false),((0:Int)),((0:Int)),((0:Int)),((0:Int)),((0:Int)),⟨((0:Int)),((0:Int))⟩,([]),((0:Int))⟩: Scanner),r8Check p.Own)) (((⟨⟨(p.Interval),(p.Window),(p.Active),(p.Policy),(p.Accept),(p.Identities),⟨(p.Own.Kind),(p.Own.Bits)⟩,(p.Unique)⟩,(true),(r21Place p2),((1:Int)),((1:Int)),((0:Int)),((0:Int)),⟨((0:Int)),((0:Int))⟩,([]),(seed)⟩: Scanner),(0:Int)))))))
def r22Start.dec (cs:List (AV El)): Option (ScanParams×Int×Int):= popA ScanParams.dec cs fun a0 c0=>popI .u64 c0 fun a1 c1=>popI .i64 c1 fun a2 c2=>popE c2 (a0,a1,a2)
def r22Start.enc (x:ScanParams×Int×Int): List (AV El):= [ScanParams.av x.1, .v (.int .u64 x.2.1), .v (.int .i64 x.2.2)]
theorem r22Start.dec_ok : ∀cs x,r22Start.dec cs=some x→Imp (S:=S) cs (r22Start.enc x):= by
 intro cs x h
 unfold r22Start.dec at h
 obtain ⟨a0,c0,h0,k0⟩:= popA_some (S:=S) ScanParams.dec_ok h
 obtain ⟨a1,c1,rfl,h1⟩:= popI_some (S:=S) h0
 obtain ⟨a2,c2,rfl,h2⟩:= popI_some (S:=S) h1
 obtain ⟨rfl,rfl⟩:= popE_some (S:=S) h2
 exact (k0 _ (.cons (.cons (.refl _))))
def r22Start.nf (p:ScanParams) (seed:Int) (p2:Int) (v:Scanner×Int): Prop:=Ob (o3 (!decide (p.Interval < (4:Int))))∧(Ob (o3 (!decide (p.Interval < (4:Int))))∧(Ob (on (decide (p.Interval < (4:Int))))∧(Ob (o3 (!bif decide (p.Interval < (4:Int)) then true else decide ((16384:Int) < p.Interval)))∧(Ob (o3 (!bif decide (p.Interval < (4:Int)) then true else decide ((16384:Int) < p.Interval)))∧(Ob (on (bif decide (p.Interval < (4:Int)) then true else decide ((16384:Int) < p.Interval)))∧(Ob (o3 (!bif bif decide (p.Interval < (4:Int)) then true else decide ((16384:Int) < p.Interval) then true else decide (p.Window < (4:Int))))∧(Ob (o3 (!bif bif decide (p.Interval < (4:Int)) then true else decide ((16384:Int) < p.Interval) then true else decide (p.Window < (4:Int))))∧(Ob (on (bif bif decide (p.Interval < (4:Int)) then true else decide ((16384:Int) < p.Interval) then true else decide (p.Window < (4:Int))))∧(cond (bif bif bif decide (p.Interval < (4:Int)) then true else decide ((16384:Int) < p.Interval) then true else decide (p.Window < (4:Int)) then true else decide ((16384:Int) < p.Window)) (r22Start.L (((⟨⟨((0:Int)),((0:Int)),(false),((0:Int)),([]),([]),⟨((0:Int)),((0:Int))⟩,(false)⟩,(false),((0:Int)),((0:Int)),((0:Int)),((0:Int)),((0:Int)),⟨((0:Int)),((0:Int))⟩,([]),((0:Int))⟩: Scanner),(5:Int))) v) (cond (decide (p.Interval < p.Window)) (r22Start.L (((⟨⟨((0:Int)),((0:Int)),(false),((0:Int)),([]),([]),⟨((0:Int)),((0:Int))⟩,(false)⟩,(false),((0:Int)),((0:Int)),((0:Int)),((0:Int)),((0:Int)),⟨((0:Int)),((0:Int))⟩,([]),((0:Int))⟩: Scanner),(11:Int))) v) (Ob (o3 (p.Policy != (0:Int)))∧(Ob (o3 (p.Policy != (0:Int)))∧(Ob (o2 (p.Policy != (0:Int)))∧(cond (bif p.Policy != (0:Int) then p.Policy != (1:Int) else false) (r22Start.L (((⟨⟨((0:Int)),((0:Int)),(false),((0:Int)),([]),([]),⟨((0:Int)),((0:Int))⟩,(false)⟩,(false),((0:Int)),((0:Int)),((0:Int)),((0:Int)),((0:Int)),⟨((0:Int)),((0:Int))⟩,([]),((0:Int))⟩: Scanner),(5:Int))) v) ((List.length p.Accept≤(9223372036854775807:Nat))→(Ob (o3 (!decide ((64:Int) < (↑(List.length p.Accept): Int))))∧(Ob (o3 (!decide ((64:Int) < (↑(List.length p.Accept): Int))))∧(Ob (o3 (!decide ((64:Int) < (↑(List.length p.Accept): Int))))∧(Ob (on (decide ((64:Int) < (↑(List.length p.Accept): Int))))∧(cond (bif decide ((64:Int) < (↑(List.length p.Accept): Int)) then true else decide ((64:Int) < (↑(List.length p.Identities): Int))) (r22Start.L (((⟨⟨((0:Int)),((0:Int)),(false),((0:Int)),([]),([]),⟨((0:Int)),((0:Int))⟩,(false)⟩,(false),((0:Int)),((0:Int)),((0:Int)),((0:Int)),((0:Int)),⟨((0:Int)),((0:Int))⟩,([]),((0:Int))⟩: Scanner),(4:Int))) v) (cond (r8Check p.Own != (0:Int)) (r22Start.L (((⟨⟨((0:Int)),((0:Int)),(false),((0:Int)),([]),([]),⟨((0:Int)),((0:Int))⟩,(false)⟩,(false),((0:Int)),((0:Int)),((0:Int)),((0:Int)),((0:Int)),⟨((0:Int)),((0:Int))⟩,([]),((0:Int))⟩: Scanner),r8Check p.Own)) v) (r22Start.L (((⟨⟨(p.Interval),(p.Window),(p.Active),(p.Policy),(p.Accept),(p.Identities),⟨(p.Own.Kind),(p.Own.Bits)⟩,(p.Unique)⟩,(true),(r21Place p2),((1:Int)),((1:Int)),((0:Int)),((0:Int)),⟨((0:Int)),((0:Int))⟩,([]),(seed)⟩: Scanner),(0:Int))) v))))))))))))))))))))))
theorem r22Start.nf_ok (p:ScanParams) (seed:Int) (p2:Int) (v:Scanner×Int): evFun (mkCxI Tryz.prog S tab_copied22 0 true sum_fIdx) 4 8 [ScanParams.av p, .v (.int .u64 seed), .v (.int .i64 p2)] [] (fun r' H'=>Gives r' H' (r22Start.res v) (r22Start.news v))= r22Start.nf p seed p2 v:=by kernel_rfl
theorem r22Start.key (p:ScanParams) (seed:Int) (p2:Int) (v:Scanner×Int) (hv:v=r22Start p seed p2): r22Start.nf p seed p2 v:=by
 unfold r22Start at hv
 unfold r22Start.nf
 iterate 2 refine ⟨⟨o3_ok _⟩, ?_⟩
 refine ⟨⟨on_ok _⟩, ?_⟩
 iterate 2 refine ⟨⟨o3_ok _⟩, ?_⟩
 refine ⟨⟨on_ok _⟩, ?_⟩
 iterate 2 refine ⟨⟨o3_ok _⟩, ?_⟩
 refine ⟨⟨on_ok _⟩, ?_⟩
 revert hv;refine by_cond2 (fun hb hv=>?_) (fun hb hv=>?_)
 ·subst hv;exact ⟨rfl,rfl⟩
 ·revert hv;refine by_cond2 (fun hb hv=>?_) (fun hb hv=>?_)
  ·subst hv;exact ⟨rfl,rfl⟩
  ·refine ⟨⟨o3_ok _⟩, ?_⟩
   refine ⟨⟨o3_ok _⟩, ?_⟩
   refine ⟨⟨o2_ok _⟩, ?_⟩
   revert hv;refine by_cond2 (fun hb hv=>?_) (fun hb hv=>?_)
   ·subst hv;exact ⟨rfl,rfl⟩
   ·intro hlen
    iterate 3 refine ⟨⟨o3_ok _⟩, ?_⟩
    refine ⟨⟨on_ok _⟩, ?_⟩
    revert hv;refine by_cond2 (fun hb hv=>?_) (fun hb hv=>?_)
    ·subst hv;exact ⟨rfl,rfl⟩
    ·revert hv;refine by_cond2 (fun hb hv=>?_) (fun hb hv=>?_)
     ·subst hv;exact ⟨rfl,rfl⟩
     ·subst hv;exact ⟨rfl,rfl⟩
def r22Start.ct:Ct El:=ctOf r22Start.dec (fun _=>[]) (fun x=>r22Start.res (r22Start x.1 x.2.1 x.2.2)) (fun x=>r22Start.news (r22Start x.1 x.2.1 x.2.2))
theorem r22Start.ok:CtOk (mkCx Tryz.prog S [] 0) 8 r22Start.ct:=ct_mk (C:=(mkCxI Tryz.prog S tab_copied22 0 true sum_fIdx)) (mkCxI_ok sigOk mixed tab_copied22_ok 0 true sum_fIdx_ok) r22Start.dec_ok (fun x=>rfl) 4 (fun x _=>(r22Start.nf_ok x.1 x.2.1 x.2.2 _).mpr (r22Start.key x.1 x.2.1 x.2.2 _ rfl))
def tab_r22Start:List (FuncId×Ct El):= (8,r22Start.ct):: tab_r22Same
theorem tab_r22Start_ok:TabOk Tryz.prog S tab_r22Start:=⟨r22Start.ok,by kernel_rfl,tab_r22Same_ok⟩
end Go.Aw.W
