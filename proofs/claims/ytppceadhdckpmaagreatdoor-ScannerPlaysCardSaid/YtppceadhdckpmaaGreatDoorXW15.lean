/- Contracts of the seat (printed by ct.py). -/
import Derived.Test.YtppceadhdckpmaaGreatDoorXW14
set_option linter.unusedVariables false
set_option linter.unusedSimpArgs false
set_option maxRecDepth 20000
set_option maxHeartbeats 1000000
namespace Go.Aw.W
open Go Go.Aw Go.Proofs
attribute [local irreducible] evCode evFun evOps evDs evOne ctxK loopK loopB subC bodyC headS okH roundK
theorem r1Power_pow : ∀n:Nat,n < 64→r1Power (n:Int)= (2:Int) ^ n:=by decide +kernel
theorem r1Power_eq {b:Int} (h0:0≤b) (h1:b≤63): r1Power b=2 ^ b.toNat:=by
 have:=r1Power_pow b.toNat (by omega)
 rwa [Int.toNat_of_nonneg h0] at this
theorem r1Power_ne {b:Int} (h0:0≤b) (h1:b≤63): r1Power b≠0:=by
 rw [r1Power_eq h0 h1]
 have:(0:Int) < 2 ^ b.toNat:=Int.pow_pos (by decide)
 omega
def kCheck.res (r:Int): AV El:=.v (.int .i64 (r))
def kCheck.news (r:Int): List (AObj El):= []
def kCheck.L (e v:Int): Prop:=kCheck.res e=kCheck.res v∧kCheck.news e=kCheck.news v
def kCheck (m:Int): Int:=cond (bclrK IntKind.u64 m (137438953471:Int) != (0:Int)) ((5:Int)) (cond (decide (kOnes m < (2:Int))) ((1:Int)) ((0:Int)))
def kCheck.dec (cs:List (AV El)): Option (Int):= popI .u64 cs fun a0 c0=>popE c0 a0
def kCheck.enc (x:Int): List (AV El):= [.v (.int .u64 x)]
theorem kCheck.dec_ok : ∀cs x,kCheck.dec cs=some x→Imp (S:=S) cs (kCheck.enc x):= by
 intro cs x h
 unfold kCheck.dec at h
 obtain ⟨a0,c0,rfl,h0⟩:= popI_some (S:=S) h
 obtain ⟨rfl,rfl⟩:= popE_some (S:=S) h0
 exact (.cons (.refl _))
def kCheck.nf (m:Int) (v:Int): Prop:=cond (bclrK IntKind.u64 m (137438953471:Int) != (0:Int)) (kCheck.L ((5:Int)) v) (cond (decide (kOnes m < (2:Int))) (kCheck.L ((1:Int)) v) (kCheck.L ((0:Int)) v))
theorem kCheck.nf_ok (m:Int) (v:Int): evFun (mkCxI Tryz.prog S tab_kOnes 0 false sum_fIdx) 4 74 [.v (.int .u64 m)] [] (fun r' H'=>Gives r' H' (kCheck.res v) (kCheck.news v))= kCheck.nf m v:=by kernel_rfl
theorem kCheck.key (m:Int) (v:Int) (hv:v=kCheck m): kCheck.nf m v:=by
 unfold kCheck at hv
 unfold kCheck.nf
 revert hv;refine by_cond2 (fun hb hv=>?_) (fun hb hv=>?_)
 ·subst hv;exact ⟨rfl,rfl⟩
 ·revert hv;refine by_cond2 (fun hb hv=>?_) (fun hb hv=>?_)
  ·subst hv;exact ⟨rfl,rfl⟩
  ·subst hv;exact ⟨rfl,rfl⟩
def kCheck.ct:Ct El:=ctOf kCheck.dec (fun _=>[]) (fun x=>kCheck.res (kCheck x)) (fun x=>kCheck.news (kCheck x))
theorem kCheck.ok:CtOk (mkCx Tryz.prog S [] 0) 74 kCheck.ct:=ct_mk (C:=(mkCxI Tryz.prog S tab_kOnes 0 false sum_fIdx)) (mkCxI_ok sigOk mixed tab_kOnes_ok 0 false sum_fIdx_ok) kCheck.dec_ok (fun x=>rfl) 4 (fun x _=>(kCheck.nf_ok x _).mpr (kCheck.key x _ rfl))
def tab_kCheck:List (FuncId×Ct El):= (74,kCheck.ct):: tab_kOnes
theorem tab_kCheck_ok:TabOk Tryz.prog S tab_kCheck:=⟨kCheck.ok,by kernel_rfl,tab_kOnes_ok⟩
def r12Has.res (r:Bool): AV El:=.v (.bool (r))
def r12Has.news (r:Bool): List (AObj El):= []
def r12Has.L (e v:Bool): Prop:=r12Has.res e=r12Has.res v∧r12Has.news e=r12Has.news v
def r12Has (m:Int) (channel:Int): Bool:=bif bif decide ((0:Int)≤channel) then decide (channel≤(36:Int)) else false then Int.tmod (IntKind.wrap IntKind.u64 (Int.tdiv m (r1Power channel))) (2:Int)== (1:Int) else false
def r12Has.dec (cs:List (AV El)): Option (Int×Int):= popI .u64 cs fun a0 c0=>popI .i64 c0 fun a1 c1=>popE c1 (a0,a1)
def r12Has.enc (x:Int×Int): List (AV El):= [.v (.int .u64 x.1), .v (.int .i64 x.2)]
theorem r12Has.dec_ok : ∀cs x,r12Has.dec cs=some x→Imp (S:=S) cs (r12Has.enc x):= by
 intro cs x h
 unfold r12Has.dec at h
 obtain ⟨a0,c0,rfl,h0⟩:= popI_some (S:=S) h
 obtain ⟨a1,c1,rfl,h1⟩:= popI_some (S:=S) h0
 obtain ⟨rfl,rfl⟩:= popE_some (S:=S) h1
 exact (.cons (.cons (.refl _)))
def r12Has.nf (m:Int) (channel:Int) (v:Bool): Prop:=Ob (o3 (decide ((0:Int)≤channel)))∧(Ob (o2 (decide ((0:Int)≤channel)))∧(Ob (o3 (bif decide ((0:Int)≤channel) then decide (channel≤(36:Int)) else false))∧(Ob ((bif decide ((0:Int)≤channel) then decide (channel≤(36:Int)) else false)= true→channel≤(9223372036854775807:Int))∧(Ob (o3 (bif decide ((0:Int)≤channel) then decide (channel≤(36:Int)) else false))∧(Ob (o3 (bif decide ((0:Int)≤channel) then decide (channel≤(36:Int)) else false))∧(Ob ((bif decide ((0:Int)≤channel) then decide (channel≤(36:Int)) else false)= true→r1Power channel≠(0:Int))∧(Ob (o3 (bif decide ((0:Int)≤channel) then decide (channel≤(36:Int)) else false))∧(Ob ((bif decide ((0:Int)≤channel) then decide (channel≤(36:Int)) else false)= true→(2:Int)≠(0:Int))∧(Ob (o3 (bif decide ((0:Int)≤channel) then decide (channel≤(36:Int)) else false))∧(Ob (o2 (bif decide ((0:Int)≤channel) then decide (channel≤(36:Int)) else false))∧(r12Has.L (bif bif decide ((0:Int)≤channel) then decide (channel≤(36:Int)) else false then Int.tmod (IntKind.wrap IntKind.u64 (Int.tdiv m (r1Power channel))) (2:Int)== (1:Int) else false) v)))))))))))
theorem r12Has.nf_ok (m:Int) (channel:Int) (v:Bool): evFun (mkCxI Tryz.prog S tab_kOnes 0 false sum_fIdx) 4 102 [.v (.int .u64 m), .v (.int .i64 channel)] [] (fun r' H'=>Gives r' H' (r12Has.res v) (r12Has.news v))= r12Has.nf m channel v:=by kernel_rfl
theorem r12Has.key (m:Int) (channel:Int) (v:Bool) (hv:v=r12Has m channel): r12Has.nf m channel v:=by
 unfold r12Has at hv
 unfold r12Has.nf
 refine ⟨⟨o3_ok _⟩, ?_⟩
 refine ⟨⟨o2_ok _⟩, ?_⟩
 refine ⟨⟨o3_ok _⟩, ?_⟩
 refine ⟨⟨?_⟩, ?_⟩;rotate_left
 iterate 2 refine ⟨⟨o3_ok _⟩, ?_⟩
 refine ⟨⟨?_⟩, ?_⟩;rotate_left
 refine ⟨⟨o3_ok _⟩, ?_⟩
 refine ⟨⟨?_⟩, ?_⟩;rotate_left
 refine ⟨⟨o3_ok _⟩, ?_⟩
 refine ⟨⟨o2_ok _⟩, ?_⟩
 subst hv;exact ⟨rfl,rfl⟩
 all_goals ((try clear hv);(try clear q1 q2);(try clear hk);(first | omega | ((try simp only [decide_eq_true_eq,decide_eq_false_iff_not,Bool.not_eq_true,Bool.not_eq_false,Bool.and_eq_true,Bool.or_eq_true,Bool.not_not,cond_and,cond_or,List.length_append,List.length_cons,List.length_nil] at *);(first | done | ((first | omega | (intros;(try simp only [Bool.not_not,cond_and,cond_or,Bool.and_eq_true,decide_eq_true_eq] at *);(exact ⟨by decide,by simp⟩))| (intros;(try simp only [Bool.not_not,cond_and,cond_or,Bool.and_eq_true,decide_eq_true_eq] at *);(exact pDerive_len _ _ (by omega) (by omega)))| (intros;(try simp only [Bool.not_not,cond_and,cond_or,Bool.and_eq_true,decide_eq_true_eq] at *);(exact pDerive_len2 _ _ (by omega) (by omega)))| (intros;(try simp only [Bool.not_not,cond_and,cond_or,Bool.and_eq_true,decide_eq_true_eq] at *);(exact band_nn rfl _ _))| (intros;(try simp only [Bool.not_not,cond_and,cond_or,Bool.and_eq_true,decide_eq_true_eq] at *);(exact (wu64s _).2.1))| (intros;(try simp only [Bool.not_not,cond_and,cond_or,Bool.and_eq_true,decide_eq_true_eq] at *);(simp only [Bool.or_eq_false_iff,Bool.and_eq_false_iff,decide_eq_false_iff_not,decide_eq_true_eq,bne_iff_ne,beq_iff_eq,bne_eq_false_iff_eq,beq_eq_false_iff_ne,ne_eq,true_and] at *;omega))| (intros;(try simp only [Bool.not_not,cond_and,cond_or,Bool.and_eq_true,decide_eq_true_eq] at *);(simp only [List.length_drop,List.length_take,List.length_append,List.length_cons,List.length_nil] at *;omega))| (intros;(try simp only [Bool.not_not,cond_and,cond_or,Bool.and_eq_true,decide_eq_true_eq] at *);exact r1Power_ne (by omega) (by omega))| (intros;omega)| (intros;simp only [sized_iff,Bool.not_not,cond_and,cond_or,Bool.and_eq_true,decide_eq_true_eq] at *;omega)| (intros;simp_all [sized_iff,Bool.not_not];done)))))))
def r12Has.ct:Ct El:=ctOf r12Has.dec (fun _=>[]) (fun x=>r12Has.res (r12Has x.1 x.2)) (fun x=>r12Has.news (r12Has x.1 x.2))
theorem r12Has.ok:CtOk (mkCx Tryz.prog S [] 0) 102 r12Has.ct:=ct_mk (C:=(mkCxI Tryz.prog S tab_kOnes 0 false sum_fIdx)) (mkCxI_ok sigOk mixed tab_kOnes_ok 0 false sum_fIdx_ok) r12Has.dec_ok (fun x=>rfl) 4 (fun x _=>(r12Has.nf_ok x.1 x.2 _).mpr (r12Has.key x.1 x.2 _ rfl))
def tab_r12Has:List (FuncId×Ct El):= (102,r12Has.ct):: tab_kCheck
theorem tab_r12Has_ok:TabOk Tryz.prog S tab_r12Has:=⟨r12Has.ok,by kernel_rfl,tab_kCheck_ok⟩
def r12List.res (r:(List Int)): AV El:=.gs 0
def r12List.news (r:(List Int)): List (AObj El):= [.row 3 (r:List (El 3))]
def r12List.L (e v:(List Int)): Prop:=r12List.res e=r12List.res v∧r12List.news e=r12List.news v
def r12List.go (m:Int): Nat→Int→(List Int)→(List Int)
 | 0,_,_=>[]
 | n0+1,i,out=>cond (decide (i≤(36:Int))) (cond (r12Has m i) (r12List.go m n0 (IntKind.wrap IntKind.i64 (i+(1:Int))) (out ++ [i])) (r12List.go m n0 (IntKind.wrap IntKind.i64 (i+(1:Int))) (out))) (out)
def r12List.hd (m:Int) (i:Int) (out:List Int): St El:={lo:=0,slots:=[(4, .v (.int .i64 (i))),(3, .gs 0),(0, .v (.int .u64 (m)))],n:=18,objs:=[.row 3 (out:List (El 3))]}
def r12List.st (m:Int) (i:Int) (out:List Int) (J:St El→Prop) (v:(List Int)): Prop:=cond (decide (i≤(36:Int))) (cond (r12Has m i) (Ob ((List.length out+List.length [i])* (8:Nat)≤(140737488355328:Nat))∧(J (r12List.hd m (IntKind.wrap IntKind.i64 (i+(1:Int))) (out ++ [i])))) (J (r12List.hd m (IntKind.wrap IntKind.i64 (i+(1:Int))) (out)))) (r12List.L (out) v)
theorem r12List.st_ok (m:Int) (i:Int) (out:List Int) (J:St El→Prop) (v:(List Int)): evCode (mkCxI Tryz.prog S tab_r12Has 0 false sum_fIdx) (evFun (mkCxI Tryz.prog S tab_r12Has 0 false sum_fIdx) 3) (loopB Tryz.prog 96 [true,true,false,true,false]) (r12List.hd m i out) (roundK (C:=(mkCxI Tryz.prog S tab_r12Has 0 false sum_fIdx)) [4,3,0] [] J (loopK (mkCxI Tryz.prog S tab_r12Has 0 false sum_fIdx) 3 96 [true,true,false,true,false] (fun r' H'=>Gives r' H' (r12List.res v) (r12List.news v))))= r12List.st m i out J v:=by kernel_rfl
def r12List.rng (m:Int) (n0:Nat) (i:Int) (out:List Int): Prop:=0≤i∧i≤37∧(37 - i).toNat < n0∧out.length≤i
theorem r12List.lp (m:Int) (v:(List Int)) (n0:Nat) (i:Int) (out:List Int) (hv:v=r12List.go m n0 i out) (h0:r12List.rng m n0 i out) (st:St El) (q1:okH [4,3,0] [] st=true) (q2:headS [4,3,0] [] st=r12List.hd m i out): evCode (mkCxI Tryz.prog S tab_r12Has 0 false sum_fIdx) (evFun (mkCxI Tryz.prog S tab_r12Has 0 false sum_fIdx) 3) (.loop (loopB Tryz.prog 96 [true,true,false,true,false])) st (loopK (mkCxI Tryz.prog S tab_r12Has 0 false sum_fIdx) 3 96 [true,true,false,true,false] (fun r' H'=>Gives r' H' (r12List.res v) (r12List.news v))):= by
 refine loop_ev (by kernel_rfl) (evFun_mono _ _) [4,3,0] [] (X:=Nat×Int×(List Int)) (fun x=>r12List.hd m x.2.1 x.2.2) (fun x=>x.1) (fun x=>r12List.rng m x.1 x.2.1 x.2.2∧v=r12List.go m x.1 x.2.1 x.2.2) (n0,i,out) ⟨q1,q2⟩ ⟨h0,hv⟩ ?_
 clear h0 hv q1 q2
 rintro ⟨n0,i,out⟩ ⟨hr,hv⟩
 dsimp only at hr hv
 cases n0 with
 | zero=>exact absurd hr (by unfold r12List.rng;omega)
 | succ n0 =>
 unfold r12List.rng at hr
 unfold r12List.go at hv
 refine (r12List.st_ok m i out _ _).mpr ?_
 unfold r12List.st
 revert hv;refine by_cond2 (fun hb hv=>?_) (fun hb hv=>?_)
 ·revert hv;refine by_cond2 (fun hb hv=>?_) (fun hb hv=>?_)
  ·refine ⟨⟨by (try clear hv);(try clear q1 q2);(try clear hk);(first | omega | ((try simp only [decide_eq_true_eq,decide_eq_false_iff_not,Bool.not_eq_true,Bool.not_eq_false,Bool.and_eq_true,Bool.or_eq_true,Bool.not_not,cond_and,cond_or,List.length_append,List.length_cons,List.length_nil] at *);(first | done | ((first | omega | (intros;(try simp only [Bool.not_not,cond_and,cond_or,Bool.and_eq_true,decide_eq_true_eq] at *);(exact ⟨by decide,by simp⟩))| (intros;(try simp only [Bool.not_not,cond_and,cond_or,Bool.and_eq_true,decide_eq_true_eq] at *);(exact pDerive_len _ _ (by omega) (by omega)))| (intros;(try simp only [Bool.not_not,cond_and,cond_or,Bool.and_eq_true,decide_eq_true_eq] at *);(exact pDerive_len2 _ _ (by omega) (by omega)))| (intros;(try simp only [Bool.not_not,cond_and,cond_or,Bool.and_eq_true,decide_eq_true_eq] at *);(exact band_nn rfl _ _))| (intros;(try simp only [Bool.not_not,cond_and,cond_or,Bool.and_eq_true,decide_eq_true_eq] at *);(exact (wu64s _).2.1))| (intros;(try simp only [Bool.not_not,cond_and,cond_or,Bool.and_eq_true,decide_eq_true_eq] at *);(simp only [Bool.or_eq_false_iff,Bool.and_eq_false_iff,decide_eq_false_iff_not,decide_eq_true_eq,bne_iff_ne,beq_iff_eq,bne_eq_false_iff_eq,beq_eq_false_iff_ne,ne_eq,true_and] at *;omega))| (intros;(try simp only [Bool.not_not,cond_and,cond_or,Bool.and_eq_true,decide_eq_true_eq] at *);(simp only [List.length_drop,List.length_take,List.length_append,List.length_cons,List.length_nil] at *;omega))| (intros;(try simp only [Bool.not_not,cond_and,cond_or,Bool.and_eq_true,decide_eq_true_eq] at *);exact r1Power_ne (by omega) (by omega))| (intros;omega)| (intros;simp only [sized_iff,Bool.not_not,cond_and,cond_or,Bool.and_eq_true,decide_eq_true_eq] at *;omega)| (intros;simp_all [sized_iff,Bool.not_not];done))))))⟩, ?_⟩
   exact ⟨(n0,(IntKind.wrap IntKind.i64 (i+(1:Int))),(out ++ [i])),(by kernel_rfl),Nat.lt_succ_self n0,(by dsimp only;unfold r12List.rng;(try clear hv);(try clear q1 q2);(try clear hk);(try simp only [decide_eq_true_eq,decide_eq_false_iff_not,Bool.not_eq_true,Bool.not_eq_false,Bool.and_eq_true,Bool.or_eq_true,Bool.not_not,cond_and,cond_or,List.length_append,List.length_cons,List.length_nil] at *);have:=wi64s (i+(1:Int));omega),hv⟩
  ·exact ⟨(n0,(IntKind.wrap IntKind.i64 (i+(1:Int))),(out)),(by kernel_rfl),Nat.lt_succ_self n0,(by dsimp only;unfold r12List.rng;(try clear hv);(try clear q1 q2);(try clear hk);(try simp only [decide_eq_true_eq,decide_eq_false_iff_not,Bool.not_eq_true,Bool.not_eq_false,Bool.and_eq_true,Bool.or_eq_true,Bool.not_not,cond_and,cond_or,List.length_append,List.length_cons,List.length_nil] at *);have:=wi64s (i+(1:Int));omega),hv⟩
 ·subst hv;exact ⟨rfl,rfl⟩
def r12List (m:Int): (List Int):= r12List.go m (38) ((0:Int)) ([])
def r12List.dec (cs:List (AV El)): Option (Int):= popI .u64 cs fun a0 c0=>popE c0 a0
def r12List.enc (x:Int): List (AV El):= [.v (.int .u64 x)]
theorem r12List.dec_ok : ∀cs x,r12List.dec cs=some x→Imp (S:=S) cs (r12List.enc x):= by
 intro cs x h
 unfold r12List.dec at h
 obtain ⟨a0,c0,rfl,h0⟩:= popI_some (S:=S) h
 obtain ⟨rfl,rfl⟩:= popE_some (S:=S) h0
 exact (.cons (.refl _))
def r12List.nf (m:Int) (v:(List Int)): Prop:=evCode (mkCxI Tryz.prog S tab_r12Has 0 false sum_fIdx) (evFun (mkCxI Tryz.prog S tab_r12Has 0 false sum_fIdx) 3) (.loop (loopB Tryz.prog 96 [true,true,false,true,false])) ({lo:=0,slots:=[(4, .v (.int .i64 ((0:Int)))),(3, .gs 0),(5, .gs 0),(2, .v (.slice none 0 0)),(0, .v (.int .u64 (m)))],n:=18,objs:=[.row 3 ([]: List (El 3))]}) (loopK (mkCxI Tryz.prog S tab_r12Has 0 false sum_fIdx) 3 96 [true,true,false,true,false] (fun r' H'=>Gives r' H' (r12List.res v) (r12List.news v)))
theorem r12List.nf_ok (m:Int) (v:(List Int)): evFun (mkCxI Tryz.prog S tab_r12Has 0 false sum_fIdx) 4 96 [.v (.int .u64 m)] [] (fun r' H'=>Gives r' H' (r12List.res v) (r12List.news v))= r12List.nf m v:=by kernel_rfl
theorem r12List.key (m:Int) (v:(List Int)) (hv:v=r12List m): r12List.nf m v:=by
 unfold r12List at hv
 unfold r12List.nf
 exact r12List.lp m v _ _ _ hv (by unfold r12List.rng;(try clear hv);(try clear q1 q2);(try clear hk);(first | omega | (simp only [List.length_nil];omega)| (simp;omega))) _ (by kernel_rfl) (by kernel_rfl)
def r12List.ct:Ct El:=ctOf r12List.dec (fun _=>[]) (fun x=>r12List.res (r12List x)) (fun x=>r12List.news (r12List x))
theorem r12List.ok:CtOk (mkCx Tryz.prog S [] 0) 96 r12List.ct:=ct_mk (C:=(mkCxI Tryz.prog S tab_r12Has 0 false sum_fIdx)) (mkCxI_ok sigOk mixed tab_r12Has_ok 0 false sum_fIdx_ok) r12List.dec_ok (fun x=>rfl) 4 (fun x _=>(r12List.nf_ok x _).mpr (r12List.key x _ rfl))
def tab_r12List:List (FuncId×Ct El):= (96,r12List.ct):: tab_r12Has
theorem tab_r12List_ok:TabOk Tryz.prog S tab_r12List:=⟨r12List.ok,by kernel_rfl,tab_r12Has_ok⟩
def r12Count.res (r:Int): AV El:=.v (.int .i64 (r))
def r12Count.news (r:Int): List (AObj El):= []
def r12Count.L (e v:Int): Prop:=r12Count.res e=r12Count.res v∧r12Count.news e=r12Count.news v
def r12Count (m:Int): Int:=(↑(List.length (r12List m)): Int)
def r12Count.dec (cs:List (AV El)): Option (Int):= popI .u64 cs fun a0 c0=>popE c0 a0
def r12Count.enc (x:Int): List (AV El):= [.v (.int .u64 x)]
theorem r12Count.dec_ok : ∀cs x,r12Count.dec cs=some x→Imp (S:=S) cs (r12Count.enc x):= by
 intro cs x h
 unfold r12Count.dec at h
 obtain ⟨a0,c0,rfl,h0⟩:= popI_some (S:=S) h
 obtain ⟨rfl,rfl⟩:= popE_some (S:=S) h0
 exact (.cons (.refl _))
def r12Count.nf (m:Int) (v:Int): Prop:=(List.length (r12List m)≤(9223372036854775807:Nat))→(r12Count.L ((↑(List.length (r12List m)): Int)) v)
theorem r12Count.nf_ok (m:Int) (v:Int): evFun (mkCxI Tryz.prog S tab_r12List 0 false sum_fIdx) 4 88 [.v (.int .u64 m)] [] (fun r' H'=>Gives r' H' (r12Count.res v) (r12Count.news v))= r12Count.nf m v:=by kernel_rfl
theorem r12Count.key (m:Int) (v:Int) (hv:v=r12Count m): r12Count.nf m v:=by
 unfold r12Count at hv
 unfold r12Count.nf
 intro hlen
 subst hv;exact ⟨rfl,rfl⟩
def r12Count.ct:Ct El:=ctOf r12Count.dec (fun _=>[]) (fun x=>r12Count.res (r12Count x)) (fun x=>r12Count.news (r12Count x))
theorem r12Count.ok:CtOk (mkCx Tryz.prog S [] 0) 88 r12Count.ct:=ct_mk (C:=(mkCxI Tryz.prog S tab_r12List 0 false sum_fIdx)) (mkCxI_ok sigOk mixed tab_r12List_ok 0 false sum_fIdx_ok) r12Count.dec_ok (fun x=>rfl) 4 (fun x _=>(r12Count.nf_ok x _).mpr (r12Count.key x _ rfl))
def tab_r12Count:List (FuncId×Ct El):= (88,r12Count.ct):: tab_r12List
theorem tab_r12Count_ok:TabOk Tryz.prog S tab_r12Count:=⟨r12Count.ok,by kernel_rfl,tab_r12List_ok⟩
end Go.Aw.W
