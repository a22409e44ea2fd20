/- Contracts of the seat (printed by ct.py). -/
import Derived.Test.YtlnbhdcaebmffaaGreatXW0
set_option linter.unusedVariables false
set_option linter.unusedSimpArgs false
set_option maxRecDepth 20000
set_option maxHeartbeats 1000000
namespace Go.Aw.W
open Go Go.Aw Go.Proofs
attribute [local irreducible] evCode evFun evOps evDs evOne ctxK loopK loopB subC bodyC headS okH roundK
def cFine.res (r:Int): AV El:=.v (.int .i64 (r))
def cFine.news (r:Int): List (AObj El):= []
def cFine.L (e v:Int): Prop:=cFine.res e=cFine.res v∧cFine.news e=cFine.news v
def cFine (c:Control): Int:=(0:Int)
def cFine.dec (cs:List (AV El)): Option (Control):= popA Control.dec cs fun a0 c0=>popE c0 a0
def cFine.enc (x:Control): List (AV El):= [Control.av x]
theorem cFine.dec_ok : ∀cs x,cFine.dec cs=some x→Imp (S:=S) cs (cFine.enc x):= by
 intro cs x h
 unfold cFine.dec at h
 obtain ⟨a0,c0,h0,k0⟩:= popA_some (S:=S) Control.dec_ok h
 obtain ⟨rfl,rfl⟩:= popE_some (S:=S) h0
 exact (k0 _ (.refl _))
def cFine.nf (c:Control) (v:Int): Prop:=cFine.L ((0:Int)) v
theorem cFine.nf_ok (c:Control) (v:Int): evFun (mkCx Tryz.prog S tab0 0) 4 115 [Control.av c] [] (fun r' H'=>Gives r' H' (cFine.res v) (cFine.news v))= cFine.nf c v:=by kernel_rfl
theorem cFine.key (c:Control) (v:Int) (hv:v=cFine c): cFine.nf c v:=by
 unfold cFine at hv
 unfold cFine.nf
 subst hv;exact ⟨rfl,rfl⟩
def cFine.ct:Ct El:=ctOf cFine.dec (fun _=>[]) (fun x=>cFine.res (cFine x)) (fun x=>cFine.news (cFine x))
theorem cFine.ok:CtOk (mkCx Tryz.prog S [] 0) 115 cFine.ct:=ct_mk (C:=(mkCx Tryz.prog S tab0 0)) (mkCx_ok sigOk mixed tab0_ok 0) cFine.dec_ok (fun x=>rfl) 4 (fun x _=>(cFine.nf_ok x _).mpr (cFine.key x _ rfl))
def tab_cFine:List (FuncId×Ct El):= (115,cFine.ct):: tab0
theorem tab_cFine_ok:TabOk Tryz.prog S tab_cFine:=⟨cFine.ok,by kernel_rfl,tab0_ok⟩
def cIn.res (r:Int): AV El:=.v (.int .i64 (r))
def cIn.news (r:Int): List (AObj El):= []
def cIn.L (e v:Int): Prop:=cIn.res e=cIn.res v∧cIn.news e=cIn.news v
def cIn (n:Int) (low:Int) (high:Int): Int:=cond (bif decide (n < low) then true else decide (high < n)) ((5:Int)) ((0:Int))
def cIn.dec (cs:List (AV El)): Option (Int×Int×Int):= popI .i64 cs fun a0 c0=>popI .i64 c0 fun a1 c1=>popI .i64 c1 fun a2 c2=>popE c2 (a0,a1,a2)
def cIn.enc (x:Int×Int×Int): List (AV El):= [.v (.int .i64 x.1), .v (.int .i64 x.2.1), .v (.int .i64 x.2.2)]
theorem cIn.dec_ok : ∀cs x,cIn.dec cs=some x→Imp (S:=S) cs (cIn.enc x):= by
 intro cs x h
 unfold cIn.dec at h
 obtain ⟨a0,c0,rfl,h0⟩:= popI_some (S:=S) h
 obtain ⟨a1,c1,rfl,h1⟩:= popI_some (S:=S) h0
 obtain ⟨a2,c2,rfl,h2⟩:= popI_some (S:=S) h1
 obtain ⟨rfl,rfl⟩:= popE_some (S:=S) h2
 exact (.cons (.cons (.cons (.refl _))))
def cIn.nf (n:Int) (low:Int) (high:Int) (v:Int): Prop:=Ob (o3 (!decide (n < low)))∧(Ob (o3 (!decide (n < low)))∧(Ob (on (decide (n < low)))∧(cond (bif decide (n < low) then true else decide (high < n)) (cIn.L ((5:Int)) v) (cIn.L ((0:Int)) v))))
theorem cIn.nf_ok (n:Int) (low:Int) (high:Int) (v:Int): evFun (mkCx Tryz.prog S tab0 0) 4 112 [.v (.int .i64 n), .v (.int .i64 low), .v (.int .i64 high)] [] (fun r' H'=>Gives r' H' (cIn.res v) (cIn.news v))= cIn.nf n low high v:=by kernel_rfl
theorem cIn.key (n:Int) (low:Int) (high:Int) (v:Int) (hv:v=cIn n low high): cIn.nf n low high v:=by
 unfold cIn at hv
 unfold cIn.nf
 iterate 2 refine ⟨⟨o3_ok _⟩, ?_⟩
 refine ⟨⟨on_ok _⟩, ?_⟩
 revert hv;refine by_cond2 (fun hb hv=>?_) (fun hb hv=>?_)
 ·subst hv;exact ⟨rfl,rfl⟩
 ·subst hv;exact ⟨rfl,rfl⟩
def cIn.ct:Ct El:=ctOf cIn.dec (fun _=>[]) (fun x=>cIn.res (cIn x.1 x.2.1 x.2.2)) (fun x=>cIn.news (cIn x.1 x.2.1 x.2.2))
theorem cIn.ok:CtOk (mkCx Tryz.prog S [] 0) 112 cIn.ct:=ct_mk (C:=(mkCx Tryz.prog S tab0 0)) (mkCx_ok sigOk mixed tab0_ok 0) cIn.dec_ok (fun x=>rfl) 4 (fun x _=>(cIn.nf_ok x.1 x.2.1 x.2.2 _).mpr (cIn.key x.1 x.2.1 x.2.2 _ rfl))
def tab_cIn:List (FuncId×Ct El):= (112,cIn.ct):: tab_cFine
theorem tab_cIn_ok:TabOk Tryz.prog S tab_cIn:=⟨cIn.ok,by kernel_rfl,tab_cFine_ok⟩
def cUpdated.res (r:Update): AV El:=Update.av (r)
def cUpdated.news (r:Update): List (AObj El):= []
def cUpdated.L (e v:Update): Prop:=cUpdated.res e=cUpdated.res v∧cUpdated.news e=cUpdated.news v
def cUpdated (l:List Int): Update:=(⟨(IntKind.wrap IntKind.i64 (List.getD l (Int.toNat 0) 0)),(IntKind.wrap IntKind.i64 (List.getD l (Int.toNat 1) 0)),(IntKind.wrap IntKind.i64 (List.getD l (Int.toNat 2) 0)),(IntKind.wrap IntKind.i64 (List.getD l (Int.toNat 3) 0)),(IntKind.wrap IntKind.i64 (List.getD l (Int.toNat 4) 0))⟩: Update)
def cUpdated.dec (cs:List (AV El)): Option ((List Int)):= popS 22 cs fun a0 c0=>popE c0 a0
def cUpdated.enc (x:(List Int)): List (AV El):= [.sl 22 (x:List (El 22)) false]
theorem cUpdated.dec_ok : ∀cs x,cUpdated.dec cs=some x→Imp (S:=S) cs (cUpdated.enc x):= by
 intro cs x h
 unfold cUpdated.dec at h
 obtain ⟨a0,c0,h0,k0⟩:= popS_some (S:=S) (t:=22) h
 obtain ⟨rfl,rfl⟩:= popE_some (S:=S) h0
 exact (k0 _ (.refl _))
def cUpdated.nf (l:List Int) (v:Update): Prop:=Ob ((0:Int)≤(0:Int)∧0 < (↑(List.length l): Int))∧(Ob ((0:Int)≤(1:Int)∧1 < (↑(List.length l): Int))∧(Ob ((0:Int)≤(2:Int)∧2 < (↑(List.length l): Int))∧(Ob ((0:Int)≤(3:Int)∧3 < (↑(List.length l): Int))∧(Ob ((0:Int)≤(4:Int)∧4 < (↑(List.length l): Int))∧(cUpdated.L ((⟨(IntKind.wrap IntKind.i64 (List.getD l (Int.toNat 0) 0)),(IntKind.wrap IntKind.i64 (List.getD l (Int.toNat 1) 0)),(IntKind.wrap IntKind.i64 (List.getD l (Int.toNat 2) 0)),(IntKind.wrap IntKind.i64 (List.getD l (Int.toNat 3) 0)),(IntKind.wrap IntKind.i64 (List.getD l (Int.toNat 4) 0))⟩: Update)) v)))))
theorem cUpdated.nf_ok (l:List Int) (v:Update): evFun (mkCx Tryz.prog S tab0 0) 4 99 [.sl 22 (l:List (El 22)) false] [] (fun r' H'=>Gives r' H' (cUpdated.res v) (cUpdated.news v))= cUpdated.nf l v:=by kernel_rfl
theorem cUpdated.key (l:List Int) (hp:5≤l.length) (v:Update) (hv:v=cUpdated l): cUpdated.nf l v:=by
 unfold cUpdated at hv
 unfold cUpdated.nf
 refine ⟨⟨?_⟩, ?_⟩;rotate_left
 refine ⟨⟨?_⟩, ?_⟩;rotate_left
 refine ⟨⟨?_⟩, ?_⟩;rotate_left
 refine ⟨⟨?_⟩, ?_⟩;rotate_left
 refine ⟨⟨?_⟩, ?_⟩;rotate_left
 subst hv;exact ⟨rfl,rfl⟩
 all_goals ((try clear hv);(try clear q1 q2);(try clear hk);(first | omega | ((try simp only [decide_eq_true_eq,decide_eq_false_iff_not,Bool.not_eq_true,Bool.not_eq_false,Bool.and_eq_true,Bool.or_eq_true,Bool.not_not,cond_and,cond_or,List.length_append,List.length_cons,List.length_nil] at *);(first | done | ((first | omega | (intros;(try simp only [Bool.not_not,cond_and,cond_or,Bool.and_eq_true,decide_eq_true_eq] at *);(exact band_nn rfl _ _))| (intros;(try simp only [Bool.not_not,cond_and,cond_or,Bool.and_eq_true,decide_eq_true_eq] at *);(exact (wu64s _).2.1))| (intros;(try simp only [Bool.not_not,cond_and,cond_or,Bool.and_eq_true,decide_eq_true_eq] at *);(simp only [Bool.or_eq_false_iff,Bool.and_eq_false_iff,decide_eq_false_iff_not,decide_eq_true_eq,bne_iff_ne,beq_iff_eq,bne_eq_false_iff_eq,beq_eq_false_iff_ne,ne_eq,true_and] at *;omega))| (intros;(try simp only [Bool.not_not,cond_and,cond_or,Bool.and_eq_true,decide_eq_true_eq] at *);(simp only [List.length_drop,List.length_take,List.length_append,List.length_cons,List.length_nil] at *;omega))| (intros;omega)| (intros;simp only [Bool.not_not,cond_and,cond_or,Bool.and_eq_true,decide_eq_true_eq] at *;omega)| (intros;simp_all [Bool.not_not];done)))))))
def cUpdated.ct:Ct El:=ctOf cUpdated.dec (fun x=>[5≤x.length]) (fun x=>cUpdated.res (cUpdated x)) (fun x=>cUpdated.news (cUpdated x))
theorem cUpdated.ok:CtOk (mkCx Tryz.prog S [] 0) 99 cUpdated.ct:=ct_mk (C:=(mkCx Tryz.prog S tab0 0)) (mkCx_ok sigOk mixed tab0_ok 0) cUpdated.dec_ok (fun x=>rfl) 4 (fun x hp=>(cUpdated.nf_ok x _).mpr (cUpdated.key x (hp _ (List.mem_singleton.2 rfl)) _ rfl))
def tab_cUpdated:List (FuncId×Ct El):= (99,cUpdated.ct):: tab_cIn
theorem tab_cUpdated_ok:TabOk Tryz.prog S tab_cUpdated:=⟨cUpdated.ok,by kernel_rfl,tab_cIn_ok⟩
def cProc.res (r:Int): AV El:=.v (.int .i64 (r))
def cProc.news (r:Int): List (AObj El):= []
def cProc.L (e v:Int): Prop:=cProc.res e=cProc.res v∧cProc.news e=cProc.news v
def cProc (kind:Int): Int:=cond (kind==8) (8) (cond (kind==9) (8) (cond (kind==3) (3) (cond (kind==4) (3) (cond (kind==5) (3) (cond (kind==6) (3) (cond (kind==18) (18) (cond (kind==19) (18) (cond (kind==20) (20) (cond (kind==21) (20) (cond (kind==0) (kind) (cond (kind==1) (kind) (cond (kind==2) (kind) (cond (kind==12) (kind) (cond (kind==15) (kind) ((-1))))))))))))))))
def cProc.dec (cs:List (AV El)): Option (Int):= popI .i64 cs fun a0 c0=>popE c0 a0
def cProc.enc (x:Int): List (AV El):= [.v (.int .i64 x)]
theorem cProc.dec_ok : ∀cs x,cProc.dec cs=some x→Imp (S:=S) cs (cProc.enc x):= by
 intro cs x h
 unfold cProc.dec at h
 obtain ⟨a0,c0,rfl,h0⟩:= popI_some (S:=S) h
 obtain ⟨rfl,rfl⟩:= popE_some (S:=S) h0
 exact (.cons (.refl _))
def cProc.nf (kind:Int) (v:Int): Prop:=cond (kind==8) (cProc.L (8) v) (cond (kind==9) (cProc.L (8) v) (cond (kind==3) (cProc.L (3) v) (cond (kind==4) (cProc.L (3) v) (cond (kind==5) (cProc.L (3) v) (cond (kind==6) (cProc.L (3) v) (cond (kind==18) (cProc.L (18) v) (cond (kind==19) (cProc.L (18) v) (cond (kind==20) (cProc.L (20) v) (cond (kind==21) (cProc.L (20) v) (cond (kind==0) (cProc.L (kind) v) (cond (kind==1) (cProc.L (kind) v) (cond (kind==2) (cProc.L (kind) v) (cond (kind==12) (cProc.L (kind) v) (cond (kind==15) (cProc.L (kind) v) (cProc.L ((-1)) v)))))))))))))))
theorem cProc.nf_ok (kind:Int) (v:Int): evFun (mkCx Tryz.prog S tab0 0) 4 30 [.v (.int .i64 kind)] [] (fun r' H'=>Gives r' H' (cProc.res v) (cProc.news v))= cProc.nf kind v:=by kernel_rfl
theorem cProc.key (kind:Int) (v:Int) (hv:v=cProc kind): cProc.nf kind v:=by
 unfold cProc at hv
 unfold cProc.nf
 revert hv;refine by_cond2 (fun hb hv=>?_) (fun hb hv=>?_)
 ·subst hv;exact ⟨rfl,rfl⟩
 ·revert hv;refine by_cond2 (fun hb hv=>?_) (fun hb hv=>?_)
  ·subst hv;exact ⟨rfl,rfl⟩
  ·revert hv;refine by_cond2 (fun hb hv=>?_) (fun hb hv=>?_)
   ·subst hv;exact ⟨rfl,rfl⟩
   ·revert hv;refine by_cond2 (fun hb hv=>?_) (fun hb hv=>?_)
    ·subst hv;exact ⟨rfl,rfl⟩
    ·revert hv;refine by_cond2 (fun hb hv=>?_) (fun hb hv=>?_)
     ·subst hv;exact ⟨rfl,rfl⟩
     ·revert hv;refine by_cond2 (fun hb hv=>?_) (fun hb hv=>?_)
      ·subst hv;exact ⟨rfl,rfl⟩
      ·revert hv;refine by_cond2 (fun hb hv=>?_) (fun hb hv=>?_)
       ·subst hv;exact ⟨rfl,rfl⟩
       ·revert hv;refine by_cond2 (fun hb hv=>?_) (fun hb hv=>?_)
        ·subst hv;exact ⟨rfl,rfl⟩
        ·revert hv;refine by_cond2 (fun hb hv=>?_) (fun hb hv=>?_)
         ·subst hv;exact ⟨rfl,rfl⟩
         ·revert hv;refine by_cond2 (fun hb hv=>?_) (fun hb hv=>?_)
          ·subst hv;exact ⟨rfl,rfl⟩
          ·revert hv;refine by_cond2 (fun hb hv=>?_) (fun hb hv=>?_)
           ·subst hv;exact ⟨rfl,rfl⟩
           ·revert hv;refine by_cond2 (fun hb hv=>?_) (fun hb hv=>?_)
            ·subst hv;exact ⟨rfl,rfl⟩
            ·revert hv;refine by_cond2 (fun hb hv=>?_) (fun hb hv=>?_)
             ·subst hv;exact ⟨rfl,rfl⟩
             ·revert hv;refine by_cond2 (fun hb hv=>?_) (fun hb hv=>?_)
              ·subst hv;exact ⟨rfl,rfl⟩
              ·revert hv;refine by_cond2 (fun hb hv=>?_) (fun hb hv=>?_)
               ·subst hv;exact ⟨rfl,rfl⟩
               ·subst hv;exact ⟨rfl,rfl⟩
def cProc.ct:Ct El:=ctOf cProc.dec (fun _=>[]) (fun x=>cProc.res (cProc x)) (fun x=>cProc.news (cProc x))
theorem cProc.ok:CtOk (mkCx Tryz.prog S [] 0) 30 cProc.ct:=ct_mk (C:=(mkCx Tryz.prog S tab0 0)) (mkCx_ok sigOk mixed tab0_ok 0) cProc.dec_ok (fun x=>rfl) 4 (fun x _=>(cProc.nf_ok x _).mpr (cProc.key x _ rfl))
def tab_cProc:List (FuncId×Ct El):= (30,cProc.ct):: tab_cUpdated
theorem tab_cProc_ok:TabOk Tryz.prog S tab_cProc:=⟨cProc.ok,by kernel_rfl,tab_cUpdated_ok⟩
def cUpd.res (r:(List Int)): AV El:=.sl 22 (r:List (El 22)) true
def cUpd.news (r:(List Int)): List (AObj El):= []
def cUpd.L (e v:(List Int)): Prop:=cUpd.res e=cUpd.res v∧cUpd.news e=cUpd.news v
def cUpd (u:Update): (List Int):= [IntKind.wrap IntKind.u64 u.WinSize,IntKind.wrap IntKind.u64 u.WinOffset,IntKind.wrap IntKind.u64 u.Interval,IntKind.wrap IntKind.u64 u.Latency,IntKind.wrap IntKind.u64 u.Timeout]
def cUpd.dec (cs:List (AV El)): Option (Update):= popA Update.dec cs fun a0 c0=>popE c0 a0
def cUpd.enc (x:Update): List (AV El):= [Update.av x]
theorem cUpd.dec_ok : ∀cs x,cUpd.dec cs=some x→Imp (S:=S) cs (cUpd.enc x):= by
 intro cs x h
 unfold cUpd.dec at h
 obtain ⟨a0,c0,h0,k0⟩:= popA_some (S:=S) Update.dec_ok h
 obtain ⟨rfl,rfl⟩:= popE_some (S:=S) h0
 exact (k0 _ (.refl _))
def cUpd.nf (u:Update) (v:(List Int)): Prop:=cUpd.L ([IntKind.wrap IntKind.u64 u.WinSize,IntKind.wrap IntKind.u64 u.WinOffset,IntKind.wrap IntKind.u64 u.Interval,IntKind.wrap IntKind.u64 u.Latency,IntKind.wrap IntKind.u64 u.Timeout]) v
theorem cUpd.nf_ok (u:Update) (v:(List Int)): evFun (mkCxF Tryz.prog S tab_cProc) 4 97 [Update.av u] [] (fun r' H'=>Gives r' H' (cUpd.res v) (cUpd.news v))= cUpd.nf u v:=by kernel_rfl
theorem cUpd.key (u:Update) (v:(List Int)) (hv:v=cUpd u): cUpd.nf u v:=by
 unfold cUpd at hv
 unfold cUpd.nf
 subst hv;exact ⟨rfl,rfl⟩
def cUpd.ct:Ct El:=ctOf cUpd.dec (fun _=>[]) (fun x=>cUpd.res (cUpd x)) (fun x=>cUpd.news (cUpd x))
theorem cUpd.ok:CtOk (mkCx Tryz.prog S [] 0) 97 cUpd.ct:=ct_mk (C:=(mkCxF Tryz.prog S tab_cProc)) (mkCxF_ok sigOk mixed tab_cProc_ok) cUpd.dec_ok (fun x=>rfl) 4 (fun x _=>(cUpd.nf_ok x _).mpr (cUpd.key x _ rfl))
def tab_cUpd:List (FuncId×Ct El):= (97,cUpd.ct):: tab_cProc
theorem tab_cUpd_ok:TabOk Tryz.prog S tab_cUpd:=⟨cUpd.ok,by kernel_rfl,tab_cProc_ok⟩
end Go.Aw.W
