/- Contracts of the seat (printed by ct.py). -/
import Derived.Test.YtppceadhdckpmaaGreatDoorXW9
set_option linter.unusedVariables false
set_option linter.unusedSimpArgs false
set_option maxRecDepth 20000
set_option maxHeartbeats 1000000
namespace Go.Aw.W
open Go Go.Aw Go.Proofs
attribute [local irreducible] evCode evFun evOps evDs evOne ctxK loopK loopB subC bodyC headS okH roundK
def fIdx.Hs (list:List Identity) (a:Address): List (AObj El):= [.cells (Address.cells a)]
def fIdx.res (r:Int): AV El:=.v (.int .i64 (r))
def fIdx.news (r:Int): List (AObj El):= []
def fIdx.go (list:List Identity) (a:Address): Nat→Int→Int
 | 0,_=>0
 | n0+1,i=>cond (decide (i < (↑(List.length list): Int))) (cond (bif (List.getD list (Int.toNat i) Identity.zero).Address.Kind==a.Kind && (List.getD list (Int.toNat i) Identity.zero).Address.Bits==a.Bits then true else pResolves (List.getD list (Int.toNat i) Identity.zero).IRK a) (i) (fIdx.go list a n0 (IntKind.wrap IntKind.i64 (i+(1:Int))))) ((-1:Int))
def fIdx.hd (list:List Identity) (a:Address) (i:Int): St El:={lo:=1,slots:=[(8, .v (.int .i64 (i))),(7, .v (.int .i64 ((↑(List.length list): Int)))),(0, .sl 88 (list:List (El 88)) false),(1, .clo 61 [.ref 0 0])],n:=19,objs:=[.cells [.v (.int .i64 (a.Kind)), .v (.int .u64 (a.Bits))]]}
def fIdx.st (list:List Identity) (a:Address) (i:Int) (J:St El→Prop) (K:AV El→List (AObj El)→Prop): Prop:=cond (decide (i < (↑(List.length list): Int))) (Ob ((0:Int)≤i∧i < (↑(List.length list): Int))∧(Ob (o3 (!((List.getD list (Int.toNat i) Identity.zero).Address.Kind==a.Kind && (List.getD list (Int.toNat i) Identity.zero).Address.Bits==a.Bits)))∧(Ob (o3 (!((List.getD list (Int.toNat i) Identity.zero).Address.Kind==a.Kind && (List.getD list (Int.toNat i) Identity.zero).Address.Bits==a.Bits)))∧(Ob (o3 (!((List.getD list (Int.toNat i) Identity.zero).Address.Kind==a.Kind && (List.getD list (Int.toNat i) Identity.zero).Address.Bits==a.Bits)))∧(Ob (on ((List.getD list (Int.toNat i) Identity.zero).Address.Kind==a.Kind && (List.getD list (Int.toNat i) Identity.zero).Address.Bits==a.Bits))∧(cond (bif (List.getD list (Int.toNat i) Identity.zero).Address.Kind==a.Kind && (List.getD list (Int.toNat i) Identity.zero).Address.Bits==a.Bits then true else pResolves (List.getD list (Int.toNat i) Identity.zero).IRK a) (K (.v (.int .i64 (i))) [.cells [.v (.int .i64 (a.Kind)), .v (.int .u64 (a.Bits))], .cells [.v (.int .i64 ((List.getD list (Int.toNat i) Identity.zero).Address.Kind)), .v (.int .u64 ((List.getD list (Int.toNat i) Identity.zero).Address.Bits)), .v (.int .u64 ((List.getD list (Int.toNat i) Identity.zero).IRK))]]) (J (fIdx.hd list a (IntKind.wrap IntKind.i64 (i+(1:Int))))))))))) (K (.v (.int .i64 ((-1:Int)))) [.cells [.v (.int .i64 (a.Kind)), .v (.int .u64 (a.Bits))]])
theorem fIdx.st_ok (list:List Identity) (a:Address) (i:Int) (J:St El→Prop) (K:AV El→List (AObj El)→Prop): evCode (mkCxI Tryz.prog S tab_r9Resolves 0 false sum0) (evFun (mkCxI Tryz.prog S tab_r9Resolves 0 false sum0) 3) (loopB Tryz.prog 60 [true,false,true,false]) (fIdx.hd list a i) (roundK (C:=(mkCxI Tryz.prog S tab_r9Resolves 0 false sum0)) [8,7,0,1] [] J (loopK (mkCxI Tryz.prog S tab_r9Resolves 0 false sum0) 3 60 [true,false,true,false] K))= fIdx.st list a i J K:=by kernel_rfl
def fIdx.rng (list:List Identity) (a:Address) (n0:Nat) (i:Int): Prop:=0≤i∧i≤list.length∧(list.length - i).toNat < n0∧list.length≤9223372036854775807
theorem fIdx.lp (list:List Identity) (a:Address) (v:Int) (n0:Nat) (i:Int) (hv:v=fIdx.go list a n0 i) (h0:fIdx.rng list a n0 i) (st:St El) (q1:okH [8,7,0,1] [] st=true) (q2:headS [8,7,0,1] [] st=fIdx.hd list a i): evCode (mkCxI Tryz.prog S tab_r9Resolves 0 false sum0) (evFun (mkCxI Tryz.prog S tab_r9Resolves 0 false sum0) 3) (.loop (loopB Tryz.prog 60 [true,false,true,false])) st (loopK (mkCxI Tryz.prog S tab_r9Resolves 0 false sum0) 3 60 [true,false,true,false] (sumK [] 1 (fIdx.res v) (fIdx.Hs list a))):= by
 refine loop_ev (by kernel_rfl) (evFun_mono _ _) [8,7,0,1] [] (X:=Nat×Int) (fun x=>fIdx.hd list a x.2) (fun x=>x.1) (fun x=>fIdx.rng list a x.1 x.2∧v=fIdx.go list a x.1 x.2) (n0,i) ⟨q1,q2⟩ ⟨h0,hv⟩ ?_
 clear h0 hv q1 q2
 rintro ⟨n0,i⟩ ⟨hr,hv⟩
 dsimp only at hr hv
 cases n0 with
 | zero=>exact absurd hr (by unfold fIdx.rng;omega)
 | succ n0 =>
 unfold fIdx.rng at hr
 unfold fIdx.go at hv
 refine (fIdx.st_ok list a i _ _).mpr ?_
 unfold fIdx.st
 revert hv;refine by_cond2 (fun hb hv=>?_) (fun hb hv=>?_)
 ·refine ⟨⟨by (try clear hv);(try clear q1 q2);(try clear hk);(first | omega | ((try simp only [decide_eq_true_eq,decide_eq_false_iff_not,Bool.not_eq_true,Bool.not_eq_false,Bool.and_eq_true,Bool.or_eq_true,Bool.not_not,cond_and,cond_or,List.length_append,List.length_cons,List.length_nil] at *);(first | done | ((first | omega | (intros;(try simp only [Bool.not_not,cond_and,cond_or,Bool.and_eq_true,decide_eq_true_eq] at *);(exact ⟨by decide,by simp⟩))| (intros;(try simp only [Bool.not_not,cond_and,cond_or,Bool.and_eq_true,decide_eq_true_eq] at *);(exact pDerive_len _ _ (by omega) (by omega)))| (intros;(try simp only [Bool.not_not,cond_and,cond_or,Bool.and_eq_true,decide_eq_true_eq] at *);(exact pDerive_len2 _ _ (by omega) (by omega)))| (intros;(try simp only [Bool.not_not,cond_and,cond_or,Bool.and_eq_true,decide_eq_true_eq] at *);(exact band_nn rfl _ _))| (intros;(try simp only [Bool.not_not,cond_and,cond_or,Bool.and_eq_true,decide_eq_true_eq] at *);(exact (wu64s _).2.1))| (intros;(try simp only [Bool.not_not,cond_and,cond_or,Bool.and_eq_true,decide_eq_true_eq] at *);(simp only [Bool.or_eq_false_iff,Bool.and_eq_false_iff,decide_eq_false_iff_not,decide_eq_true_eq,bne_iff_ne,beq_iff_eq,bne_eq_false_iff_eq,beq_eq_false_iff_ne,ne_eq,true_and] at *;omega))| (intros;(try simp only [Bool.not_not,cond_and,cond_or,Bool.and_eq_true,decide_eq_true_eq] at *);(simp only [List.length_drop,List.length_take,List.length_append,List.length_cons,List.length_nil] at *;omega))| (intros;omega)| (intros;simp only [sized_iff,Bool.not_not,cond_and,cond_or,Bool.and_eq_true,decide_eq_true_eq] at *;omega)| (intros;simp_all [sized_iff,Bool.not_not];done))))))⟩, ?_⟩
  iterate 3 refine ⟨⟨o3_ok _⟩, ?_⟩
  refine ⟨⟨on_ok _⟩, ?_⟩
  revert hv;refine by_cond2 (fun hb hv=>?_) (fun hb hv=>?_)
  ·subst hv;exact And.intro (by kernel_rfl) (by kernel_rfl)
  ·exact ⟨(n0,(IntKind.wrap IntKind.i64 (i+(1:Int)))),(by kernel_rfl),Nat.lt_succ_self n0,(by dsimp only;unfold fIdx.rng;(try clear hv);(try clear q1 q2);(try clear hk);(try simp only [decide_eq_true_eq,decide_eq_false_iff_not,Bool.not_eq_true,Bool.not_eq_false,Bool.and_eq_true,Bool.or_eq_true,Bool.not_not,cond_and,cond_or,List.length_append,List.length_cons,List.length_nil] at *);have:=wi64s (i+(1:Int));omega),hv⟩
 ·subst hv;exact And.intro (by kernel_rfl) (by kernel_rfl)
def fIdx (list:List Identity) (a:Address): Int:=fIdx.go list a (list.length+1) ((0:Int))
def fIdx.nf (list:List Identity) (a:Address) (K:AV El→List (AObj El)→Prop): Prop:=(List.length list≤(9223372036854775807:Nat))→(evCode (mkCxI Tryz.prog S tab_r9Resolves 0 false sum0) (evFun (mkCxI Tryz.prog S tab_r9Resolves 0 false sum0) 3) (.loop (loopB Tryz.prog 60 [true,false,true,false])) ({lo:=1,slots:=[(8, .v (.int .i64 ((0:Int)))),(7, .v (.int .i64 ((↑(List.length list): Int)))),(6, .sl 88 (list:List (El 88)) false),(4, .v (.int .i64 ((0:Int)))),(0, .sl 88 (list:List (El 88)) false),(1, .clo 61 [.ref 0 0])],n:=19,objs:=[.cells [.v (.int .i64 (a.Kind)), .v (.int .u64 (a.Bits))]]}) (loopK (mkCxI Tryz.prog S tab_r9Resolves 0 false sum0) 3 60 [true,false,true,false] K))
theorem fIdx.nf_ok (list:List Identity) (a:Address) (K:AV El→List (AObj El)→Prop): evFun (mkCxI Tryz.prog S tab_r9Resolves 0 false sum0) 4 60 [.sl 88 (list:List (El 88)) false, .clo 61 (refsOf [(0,0)])] [.cells (Address.cells a)] K=fIdx.nf list a K:=by kernel_rfl
theorem fIdx.key (list:List Identity) (a:Address) (v:Int) (hv:v=fIdx list a): fIdx.nf list a (sumK [] 1 (fIdx.res v) (fIdx.Hs list a)):= by
 unfold fIdx at hv
 unfold fIdx.nf
 intro hlen
 exact fIdx.lp list a v _ _ hv (by unfold fIdx.rng;(try clear hv);(try clear q1 q2);(try clear hk);(first | omega | (simp only [List.length_nil];omega)| (simp;omega))) _ (by kernel_rfl) (by kernel_rfl)
def fIdx.sdec (args:List (AV El)) (H:List (AObj El)): Option ((List Identity)×Address):= popS 88 args fun a0 c0=>popK 61 [(0,0)] c0 fun c1=>(popE c1 ()).bind fun _=>popHC Address.dec H fun a2 c2=>popHE c2 (a0,a2)
def fIdx.senc (x:(List Identity)×Address): List (AV El):= [.sl 88 ((x.1): List (El 88)) false, .clo 61 (refsOf [(0,0)])]
def fIdx.sencH (x:(List Identity)×Address): List (AObj El):= [.cells (Address.cells (x.2))]
theorem fIdx.sdec_ok : ∀args H x,fIdx.sdec args H=some x→Imp (S:=S) args (fIdx.senc x)∧HImp (S:=S) H (fIdx.sencH x):= by
 intro args H x h
 unfold fIdx.sdec at h
 obtain ⟨a0,c0,h0,k0⟩:= popS_some (S:=S) (t:=88) h
 obtain ⟨c1,rfl,h1⟩:= popK_some (El:=El) h0
 obtain ⟨u0,hu0,hb⟩:= Option.bind_eq_some_iff.1 h1
 obtain ⟨rfl,_⟩:= popE_some (S:=S) hu0
 obtain ⟨a2,c2,h2,k2⟩:= popHC_some (S:=S) Address.dec_ok hb
 obtain ⟨rfl,rfl⟩:= popHE_some (El:=El) h2
 exact ⟨(k0 _ (.cons (.refl _))),(k2 _ trivial)⟩
def sum_fIdx:SumI El:=sumOf 60 fIdx.sdec (fun _=>[]) (fun x=>fIdx.res (fIdx x.1 x.2)) (fun x=>fIdx.Hs x.1 x.2) sum0
theorem sum_fIdx_ok:SumTab Tryz.prog S sum_fIdx:=sum_mk (C:=(mkCxI Tryz.prog S tab_r9Resolves 0 false sum0)) (mkCxI_ok sigOk mixed tab_r9Resolves_ok 0 false (sum0_ok Tryz.prog S)) fIdx.sdec_ok (by kernel_rfl) 4 [] (fun x _=>(fIdx.nf_ok x.1 x.2 _).mpr (fIdx.key x.1 x.2 _ rfl)) (sum0_ok Tryz.prog S)
end Go.Aw.W
