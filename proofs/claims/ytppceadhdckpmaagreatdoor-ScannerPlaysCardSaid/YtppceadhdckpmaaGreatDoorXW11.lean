/- Contracts of the seat (printed by ct.py). -/
import Derived.Test.YtppceadhdckpmaaGreatDoorXW10
set_option linter.unusedVariables false
set_option linter.unusedSimpArgs false
set_option maxRecDepth 20000
set_option maxHeartbeats 1000000
namespace Go.Aw.W
open Go Go.Aw Go.Proofs
attribute [local irreducible] evCode evFun evOps evDs evOne ctxK loopK loopB subC bodyC headS okH roundK
def pFind.res (r:Int): AV El:=.v (.int .i64 (r))
def pFind.news (r:Int): List (AObj El):= []
def pFind.L (e v:Int): Prop:=pFind.res e=pFind.res v∧pFind.news e=pFind.news v
def pFind (list:List Identity) (a:Address): Int:=cond (aCheck a != (0:Int)) ((-1:Int)) (fIdx list a)
def pFind.dec (cs:List (AV El)): Option ((List Identity)×Address):= popS 88 cs fun a0 c0=>popA Address.dec c0 fun a1 c1=>popE c1 (a0,a1)
def pFind.enc (x:(List Identity)×Address): List (AV El):= [.sl 88 (x.1:List (El 88)) false,Address.av x.2]
theorem pFind.dec_ok : ∀cs x,pFind.dec cs=some x→Imp (S:=S) cs (pFind.enc x):= by
 intro cs x h
 unfold pFind.dec at h
 obtain ⟨a0,c0,h0,k0⟩:= popS_some (S:=S) (t:=88) h
 obtain ⟨a1,c1,h1,k1⟩:= popA_some (S:=S) Address.dec_ok h0
 obtain ⟨rfl,rfl⟩:= popE_some (S:=S) h1
 exact (k0 _ (k1 _ (.refl _)))
def pFind.nf (list:List Identity) (a:Address) (v:Int): Prop:=cond (aCheck a != (0:Int)) (pFind.L ((-1:Int)) v) (pFind.L (fIdx list a) v)
theorem pFind.nf_ok (list:List Identity) (a:Address) (v:Int): evFun (mkCxI Tryz.prog S tab_r9Resolves 0 false sum_fIdx) 4 48 [.sl 88 (list:List (El 88)) false,Address.av a] [] (fun r' H'=>Gives r' H' (pFind.res v) (pFind.news v))= pFind.nf list a v:=by kernel_rfl
theorem pFind.key (list:List Identity) (a:Address) (v:Int) (hv:v=pFind list a): pFind.nf list a v:=by
 unfold pFind at hv
 unfold pFind.nf
 revert hv;refine by_cond2 (fun hb hv=>?_) (fun hb hv=>?_)
 ·subst hv;exact ⟨rfl,rfl⟩
 ·subst hv;exact ⟨rfl,rfl⟩
def pFind.ct:Ct El:=ctOf pFind.dec (fun _=>[]) (fun x=>pFind.res (pFind x.1 x.2)) (fun x=>pFind.news (pFind x.1 x.2))
theorem pFind.ok:CtOk (mkCx Tryz.prog S [] 0) 48 pFind.ct:=ct_mk (C:=(mkCxI Tryz.prog S tab_r9Resolves 0 false sum_fIdx)) (mkCxI_ok sigOk mixed tab_r9Resolves_ok 0 false sum_fIdx_ok) pFind.dec_ok (fun x=>rfl) 4 (fun x _=>(pFind.nf_ok x.1 x.2 _).mpr (pFind.key x.1 x.2 _ rfl))
def tab_pFind:List (FuncId×Ct El):= (48,pFind.ct):: tab_r9Resolves
theorem tab_pFind_ok:TabOk Tryz.prog S tab_pFind:=⟨pFind.ok,by kernel_rfl,tab_r9Resolves_ok⟩
def r9Find.res (r:Int): AV El:=.v (.int .i64 (r))
def r9Find.news (r:Int): List (AObj El):= []
def r9Find.L (e v:Int): Prop:=r9Find.res e=r9Find.res v∧r9Find.news e=r9Find.news v
def r9Find.go (list:List Identity) (a:Address): Nat→Int→Int
 | 0,_=>0
 | n0+1,i=>cond (decide (i < (↑(List.length list): Int))) (cond (bif (List.getD list (Int.toNat i) Identity.zero).Address.Kind==a.Kind && (List.getD list (Int.toNat i) Identity.zero).Address.Bits==a.Bits then true else r9Resolves (List.getD list (Int.toNat i) Identity.zero).IRK a) (i) (r9Find.go list a n0 (IntKind.wrap IntKind.i64 (i+(1:Int))))) ((-1:Int))
def r9Find.hd (list:List Identity) (a:Address) (i:Int): St El:={lo:=0,slots:=[(5, .v (.int .i64 (i))),(3, .ref 0 0),(0, .sl 88 (list:List (El 88)) false)],n:=32,objs:=[.cells [.v (.int .i64 (a.Kind)), .v (.int .u64 (a.Bits))]]}
def r9Find.st (list:List Identity) (a:Address) (i:Int) (J:St El→Prop) (v:Int): Prop:=(List.length list≤(9223372036854775807:Nat))→(cond (decide (i < (↑(List.length list): Int))) (Ob ((0:Int)≤i∧i < (↑(List.length list): Int))∧(Ob (o3 (!((List.getD list (Int.toNat i) Identity.zero).Address.Kind==a.Kind && (List.getD list (Int.toNat i) Identity.zero).Address.Bits==a.Bits)))∧(Ob (o3 (!((List.getD list (Int.toNat i) Identity.zero).Address.Kind==a.Kind && (List.getD list (Int.toNat i) Identity.zero).Address.Bits==a.Bits)))∧(Ob ((!((List.getD list (Int.toNat i) Identity.zero).Address.Kind==a.Kind && (List.getD list (Int.toNat i) Identity.zero).Address.Bits==a.Bits))= true→(0:Int)≤i∧i < (↑(List.length list): Int))∧(Ob (o3 (!((List.getD list (Int.toNat i) Identity.zero).Address.Kind==a.Kind && (List.getD list (Int.toNat i) Identity.zero).Address.Bits==a.Bits)))∧(Ob (o3 (!((List.getD list (Int.toNat i) Identity.zero).Address.Kind==a.Kind && (List.getD list (Int.toNat i) Identity.zero).Address.Bits==a.Bits)))∧(Ob (o3 (!((List.getD list (Int.toNat i) Identity.zero).Address.Kind==a.Kind && (List.getD list (Int.toNat i) Identity.zero).Address.Bits==a.Bits)))∧(Ob (o3 (!((List.getD list (Int.toNat i) Identity.zero).Address.Kind==a.Kind && (List.getD list (Int.toNat i) Identity.zero).Address.Bits==a.Bits)))∧(Ob (on ((List.getD list (Int.toNat i) Identity.zero).Address.Kind==a.Kind && (List.getD list (Int.toNat i) Identity.zero).Address.Bits==a.Bits))∧(cond (bif (List.getD list (Int.toNat i) Identity.zero).Address.Kind==a.Kind && (List.getD list (Int.toNat i) Identity.zero).Address.Bits==a.Bits then true else r9Resolves (List.getD list (Int.toNat i) Identity.zero).IRK a) (r9Find.L (i) v) (J (r9Find.hd list a (IntKind.wrap IntKind.i64 (i+(1:Int))))))))))))))) (r9Find.L ((-1:Int)) v))
theorem r9Find.st_ok (list:List Identity) (a:Address) (i:Int) (J:St El→Prop) (v:Int): evCode (mkCxI Tryz.prog S tab_pFind 0 false sum_fIdx) (evFun (mkCxI Tryz.prog S tab_pFind 0 false sum_fIdx) 3) (loopB Tryz.prog 55 [true,true,false,true,false]) (r9Find.hd list a i) (roundK (C:=(mkCxI Tryz.prog S tab_pFind 0 false sum_fIdx)) [5,3,0] [] J (loopK (mkCxI Tryz.prog S tab_pFind 0 false sum_fIdx) 3 55 [true,true,false,true,false] (fun r' H'=>Gives r' H' (r9Find.res v) (r9Find.news v))))= r9Find.st list a i J v:=by kernel_rfl
def r9Find.rng (list:List Identity) (a:Address) (n0:Nat) (i:Int): Prop:=0≤i∧i≤list.length∧(list.length - i).toNat < n0
theorem r9Find.lp (list:List Identity) (a:Address) (v:Int) (n0:Nat) (i:Int) (hv:v=r9Find.go list a n0 i) (h0:r9Find.rng list a n0 i) (st:St El) (q1:okH [5,3,0] [] st=true) (q2:headS [5,3,0] [] st=r9Find.hd list a i): evCode (mkCxI Tryz.prog S tab_pFind 0 false sum_fIdx) (evFun (mkCxI Tryz.prog S tab_pFind 0 false sum_fIdx) 3) (.loop (loopB Tryz.prog 55 [true,true,false,true,false])) st (loopK (mkCxI Tryz.prog S tab_pFind 0 false sum_fIdx) 3 55 [true,true,false,true,false] (fun r' H'=>Gives r' H' (r9Find.res v) (r9Find.news v))):= by
 refine loop_ev (by kernel_rfl) (evFun_mono _ _) [5,3,0] [] (X:=Nat×Int) (fun x=>r9Find.hd list a x.2) (fun x=>x.1) (fun x=>r9Find.rng list a x.1 x.2∧v=r9Find.go list a x.1 x.2) (n0,i) ⟨q1,q2⟩ ⟨h0,hv⟩ ?_
 clear h0 hv q1 q2
 rintro ⟨n0,i⟩ ⟨hr,hv⟩
 dsimp only at hr hv
 cases n0 with
 | zero=>exact absurd hr (by unfold r9Find.rng;omega)
 | succ n0 =>
 unfold r9Find.rng at hr
 unfold r9Find.go at hv
 refine (r9Find.st_ok list a i _ _).mpr ?_
 unfold r9Find.st
 intro hlen
 revert hv;refine by_cond2 (fun hb hv=>?_) (fun hb hv=>?_)
 refine ⟨⟨?_⟩, ?_⟩;rotate_left
 iterate 2 refine ⟨⟨o3_ok _⟩, ?_⟩
 refine ⟨⟨?_⟩, ?_⟩;rotate_left
 iterate 4 refine ⟨⟨o3_ok _⟩, ?_⟩
 refine ⟨⟨on_ok _⟩, ?_⟩
 revert hv;refine by_cond2 (fun hb hv=>?_) (fun hb hv=>?_)
 subst hv;exact ⟨rfl,rfl⟩
 exact ⟨(n0,(IntKind.wrap IntKind.i64 (i+(1:Int)))),(by kernel_rfl),Nat.lt_succ_self n0,(by dsimp only;unfold r9Find.rng;(try clear hv);(try clear q1 q2);(try clear hk);(try simp only [decide_eq_true_eq,decide_eq_false_iff_not,Bool.not_eq_true,Bool.not_eq_false,Bool.and_eq_true,Bool.or_eq_true,Bool.not_not,cond_and,cond_or,List.length_append,List.length_cons,List.length_nil] at *);have:=wi64s (i+(1:Int));omega),hv⟩
 subst hv;exact ⟨rfl,rfl⟩
 all_goals ((try clear hv);(try clear q1 q2);(try clear hk);(first | omega | ((try simp only [decide_eq_true_eq,decide_eq_false_iff_not,Bool.not_eq_true,Bool.not_eq_false,Bool.and_eq_true,Bool.or_eq_true,Bool.not_not,cond_and,cond_or,List.length_append,List.length_cons,List.length_nil] at *);(first | done | ((first | omega | (intros;(try simp only [Bool.not_not,cond_and,cond_or,Bool.and_eq_true,decide_eq_true_eq] at *);(exact ⟨by decide,by simp⟩))| (intros;(try simp only [Bool.not_not,cond_and,cond_or,Bool.and_eq_true,decide_eq_true_eq] at *);(exact pDerive_len _ _ (by omega) (by omega)))| (intros;(try simp only [Bool.not_not,cond_and,cond_or,Bool.and_eq_true,decide_eq_true_eq] at *);(exact pDerive_len2 _ _ (by omega) (by omega)))| (intros;(try simp only [Bool.not_not,cond_and,cond_or,Bool.and_eq_true,decide_eq_true_eq] at *);(exact band_nn rfl _ _))| (intros;(try simp only [Bool.not_not,cond_and,cond_or,Bool.and_eq_true,decide_eq_true_eq] at *);(exact (wu64s _).2.1))| (intros;(try simp only [Bool.not_not,cond_and,cond_or,Bool.and_eq_true,decide_eq_true_eq] at *);(simp only [Bool.or_eq_false_iff,Bool.and_eq_false_iff,decide_eq_false_iff_not,decide_eq_true_eq,bne_iff_ne,beq_iff_eq,bne_eq_false_iff_eq,beq_eq_false_iff_ne,ne_eq,true_and] at *;omega))| (intros;(try simp only [Bool.not_not,cond_and,cond_or,Bool.and_eq_true,decide_eq_true_eq] at *);(simp only [List.length_drop,List.length_take,List.length_append,List.length_cons,List.length_nil] at *;omega))| (intros;omega)| (intros;simp only [sized_iff,Bool.not_not,cond_and,cond_or,Bool.and_eq_true,decide_eq_true_eq] at *;omega)| (intros;simp_all [sized_iff,Bool.not_not];done)))))))
def r9Find (list:List Identity) (a:Address): Int:=cond (r8Check a != (0:Int)) ((-1:Int)) (r9Find.go list a (list.length+1) ((0:Int)))
def r9Find.dec (cs:List (AV El)): Option ((List Identity)×Address):= popS 88 cs fun a0 c0=>popA Address.dec c0 fun a1 c1=>popE c1 (a0,a1)
def r9Find.enc (x:(List Identity)×Address): List (AV El):= [.sl 88 (x.1:List (El 88)) false,Address.av x.2]
theorem r9Find.dec_ok : ∀cs x,r9Find.dec cs=some x→Imp (S:=S) cs (r9Find.enc x):= by
 intro cs x h
 unfold r9Find.dec at h
 obtain ⟨a0,c0,h0,k0⟩:= popS_some (S:=S) (t:=88) h
 obtain ⟨a1,c1,h1,k1⟩:= popA_some (S:=S) Address.dec_ok h0
 obtain ⟨rfl,rfl⟩:= popE_some (S:=S) h1
 exact (k0 _ (k1 _ (.refl _)))
def r9Find.nf (list:List Identity) (a:Address) (v:Int): Prop:=cond (r8Check a != (0:Int)) (r9Find.L ((-1:Int)) v) (evCode (mkCxI Tryz.prog S tab_pFind 0 false sum_fIdx) (evFun (mkCxI Tryz.prog S tab_pFind 0 false sum_fIdx) 3) (.loop (loopB Tryz.prog 55 [true,true,false,true,false])) ({lo:=0,slots:=[(5, .v (.int .i64 ((0:Int)))),(8, .v (.bool (false))),(8, .v (.bool (r8Check a != (0:Int)))),(7, .v (.int .i64 (r8Check a))),(6, .agg [.v (.int .i64 (a.Kind)), .v (.int .u64 (a.Bits))]),(4, .v (.int .i64 ((0:Int)))),(3, .ref 0 0),(0, .sl 88 (list:List (El 88)) false),(1, .agg [.v (.int .i64 (a.Kind)), .v (.int .u64 (a.Bits))])],n:=32,objs:=[.cells [.v (.int .i64 (a.Kind)), .v (.int .u64 (a.Bits))]]}) (loopK (mkCxI Tryz.prog S tab_pFind 0 false sum_fIdx) 3 55 [true,true,false,true,false] (fun r' H'=>Gives r' H' (r9Find.res v) (r9Find.news v))))
theorem r9Find.nf_ok (list:List Identity) (a:Address) (v:Int): evFun (mkCxI Tryz.prog S tab_pFind 0 false sum_fIdx) 4 55 [.sl 88 (list:List (El 88)) false,Address.av a] [] (fun r' H'=>Gives r' H' (r9Find.res v) (r9Find.news v))= r9Find.nf list a v:=by kernel_rfl
theorem r9Find.key (list:List Identity) (a:Address) (v:Int) (hv:v=r9Find list a): r9Find.nf list a v:=by
 unfold r9Find at hv
 unfold r9Find.nf
 revert hv;refine by_cond2 (fun hb hv=>?_) (fun hb hv=>?_)
 ·subst hv;exact ⟨rfl,rfl⟩
 ·exact r9Find.lp list a v _ _ hv (by unfold r9Find.rng;(try clear hv);(try clear q1 q2);(try clear hk);(first | omega | (simp only [List.length_nil];omega)| (simp;omega))) _ (by kernel_rfl) (by kernel_rfl)
def r9Find.ct:Ct El:=ctOf r9Find.dec (fun _=>[]) (fun x=>r9Find.res (r9Find x.1 x.2)) (fun x=>r9Find.news (r9Find x.1 x.2))
theorem r9Find.ok:CtOk (mkCx Tryz.prog S [] 0) 55 r9Find.ct:=ct_mk (C:=(mkCxI Tryz.prog S tab_pFind 0 false sum_fIdx)) (mkCxI_ok sigOk mixed tab_pFind_ok 0 false sum_fIdx_ok) r9Find.dec_ok (fun x=>rfl) 4 (fun x _=>(r9Find.nf_ok x.1 x.2 _).mpr (r9Find.key x.1 x.2 _ rfl))
def tab_r9Find:List (FuncId×Ct El):= (55,r9Find.ct):: tab_pFind
theorem tab_r9Find_ok:TabOk Tryz.prog S tab_r9Find:=⟨r9Find.ok,by kernel_rfl,tab_pFind_ok⟩
end Go.Aw.W
