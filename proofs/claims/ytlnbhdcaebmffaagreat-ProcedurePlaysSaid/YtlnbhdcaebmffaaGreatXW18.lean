/- Contracts of the seat (printed by ct.py). -/
import Derived.Test.YtlnbhdcaebmffaaGreatXW17
set_option linter.unusedVariables false
set_option linter.unusedSimpArgs false
set_option maxRecDepth 20000
set_option maxHeartbeats 1000000
namespace Go.Aw.W
open Go Go.Aw Go.Proofs
attribute [local irreducible] evCode evFun evOps evDs evOne ctxK loopK loopB subC bodyC headS okH roundK
attribute [local irreducible] cCheck
def r27Add.res (r:(List Change)×Int): AV El:=.tup [.sl 55 (r.1:List (El 55)) false, .v (.int .i64 (r.2))]
def r27Add.news (r:(List Change)×Int): List (AObj El):= []
def r27Add.L (e v:(List Change)×Int): Prop:=r27Add.res e=r27Add.res v∧r27Add.news e=r27Add.news v
def r27Add (l:List Change) (event:Int) (c:Change): (List Change)×Int:=cond (r27Check event c != (0:Int)) (([]++ l,r27Check event c)) (cond (decide ((0:Int) < (↑(List.length l): Int))) (([]++ l,(20:Int))) (([]++ l ++ [c],(0:Int))))
def r27Add.dec (cs:List (AV El)): Option ((List Change)×Int×Change):= popS 55 cs fun a0 c0=>popI .u16 c0 fun a1 c1=>popA Change.dec c1 fun a2 c2=>popE c2 (a0,a1,a2)
def r27Add.enc (x:(List Change)×Int×Change): List (AV El):= [.sl 55 (x.1:List (El 55)) false, .v (.int .u16 x.2.1),Change.av x.2.2]
theorem r27Add.dec_ok : ∀cs x,r27Add.dec cs=some x→Imp (S:=S) cs (r27Add.enc x):= by
 intro cs x h
 unfold r27Add.dec at h
 obtain ⟨a0,c0,h0,k0⟩:= popS_some (S:=S) (t:=55) h
 obtain ⟨a1,c1,rfl,h1⟩:= popI_some (S:=S) h0
 obtain ⟨a2,c2,h2,k2⟩:= popA_some (S:=S) Change.dec_ok h1
 obtain ⟨rfl,rfl⟩:= popE_some (S:=S) h2
 exact (k0 _ (.cons (k2 _ (.refl _))))
def r27Add.nf (l:List Change) (event:Int) (c:Change) (v:(List Change)×Int): Prop:=Ob (((0:Nat)+ List.length l)* (64:Nat)≤(140737488355328:Nat))∧(cond (r27Check event c != 0) (r27Add.L (([]++ l,r27Check event c)) v) ((List.length l≤(9223372036854775807:Nat))→(cond (decide (0 < (↑(List.length l): Int))) (r27Add.L (([]++ l,20)) v) (Ob ((List.length ([]++ l)+ List.length [c])* (64:Nat)≤(140737488355328:Nat))∧(r27Add.L (([]++ l ++ [c],0)) v)))))
theorem r27Add.nf_ok (l:List Change) (event:Int) (c:Change) (v:(List Change)×Int): evFun (mkCx Tryz.prog S tab_procExpired 0) 4 85 [.sl 55 (l:List (El 55)) false, .v (.int .u16 event),Change.av c] [] (fun r' H'=>Gives r' H' (r27Add.res v) (r27Add.news v))= r27Add.nf l event c v:=by kernel_rfl
theorem r27Add.key (l:List Change) (event:Int) (c:Change) (hp:l.length≤1000) (v:(List Change)×Int) (hv:v=r27Add l event c): r27Add.nf l event c v:=by
 unfold r27Add at hv
 unfold r27Add.nf
 refine ⟨⟨?_⟩, ?_⟩;rotate_left
 revert hv;refine by_cond2 (fun hb hv=>?_) (fun hb hv=>?_)
 subst hv;exact ⟨rfl,rfl⟩
 intro hlen
 revert hv;refine by_cond2 (fun hb hv=>?_) (fun hb hv=>?_)
 subst hv;exact ⟨rfl,rfl⟩
 refine ⟨⟨?_⟩, ?_⟩;rotate_left
 subst hv;exact ⟨rfl,rfl⟩
 all_goals ((try clear hv);(try clear q1 q2);(try clear hk);(first | omega | ((try simp only [decide_eq_true_eq,decide_eq_false_iff_not,Bool.not_eq_true,Bool.not_eq_false,Bool.and_eq_true,Bool.or_eq_true,Bool.not_not,cond_and,cond_or,List.length_append,List.length_cons,List.length_nil] at *);(first | done | ((first | omega | (intros;(try simp only [Bool.not_not,cond_and,cond_or,Bool.and_eq_true,decide_eq_true_eq] at *);(exact band_nn rfl _ _))| (intros;(try simp only [Bool.not_not,cond_and,cond_or,Bool.and_eq_true,decide_eq_true_eq] at *);(exact (wu64s _).2.1))| (intros;(try simp only [Bool.not_not,cond_and,cond_or,Bool.and_eq_true,decide_eq_true_eq] at *);(simp only [Bool.or_eq_false_iff,Bool.and_eq_false_iff,decide_eq_false_iff_not,decide_eq_true_eq,bne_iff_ne,beq_iff_eq,bne_eq_false_iff_eq,beq_eq_false_iff_ne,ne_eq,true_and] at *;omega))| (intros;(try simp only [Bool.not_not,cond_and,cond_or,Bool.and_eq_true,decide_eq_true_eq] at *);(simp only [List.length_drop,List.length_take,List.length_append,List.length_cons,List.length_nil] at *;omega))| (intros;(try simp only [Bool.not_not,cond_and,cond_or,Bool.and_eq_true,decide_eq_true_eq] at *);exact r1Power_ne (by omega) (by omega))| (intros;omega)| (intros;simp only [Bool.not_not,cond_and,cond_or,Bool.and_eq_true,decide_eq_true_eq] at *;omega)| (intros;simp_all [Bool.not_not];done)))))))
def r27Add.ct:Ct El:=ctOf r27Add.dec (fun x=>[x.1.length≤1000]) (fun x=>r27Add.res (r27Add x.1 x.2.1 x.2.2)) (fun x=>r27Add.news (r27Add x.1 x.2.1 x.2.2))
theorem r27Add.ok:CtOk (mkCx Tryz.prog S [] 0) 85 r27Add.ct:=ct_mk (C:=(mkCx Tryz.prog S tab_procExpired 0)) (mkCx_ok sigOk mixed tab_procExpired_ok 0) r27Add.dec_ok (fun x=>rfl) 4 (fun x hp=>(r27Add.nf_ok x.1 x.2.1 x.2.2 _).mpr (r27Add.key x.1 x.2.1 x.2.2 (hp _ (List.mem_singleton.2 rfl)) _ rfl))
def tab_r27Add:List (FuncId×Ct El):= (85,r27Add.ct):: tab_procExpired
theorem tab_r27Add_ok:TabOk Tryz.prog S tab_r27Add:=⟨r27Add.ok,by kernel_rfl,tab_procExpired_ok⟩
def r28waits.res (r:Bool): AV El:=.v (.bool (r))
def r28waits.news (r:Bool): List (AObj El):= []
def r28waits.L (e v:Bool): Prop:=r28waits.res e=r28waits.res v∧r28waits.news e=r28waits.news v
def r28waits.go (p0:Procs) (kind:Int): Nat→Int→Bool
 | 0,_=>false
 | n0+1,i=>cond (decide (i < (↑(List.length p0.Waiting): Int))) (cond ((List.getD p0.Waiting (Int.toNat i) Control.zero).Kind==kind) (true) (r28waits.go p0 kind n0 (IntKind.wrap IntKind.i64 (i+(1:Int))))) (false)
def r28waits.hd (p0:Procs) (kind:Int) (i:Int): St El:={lo:=0,slots:=[(5, .v (.int .i64 (i))),(2, .ref 0 0),(1, .v (.int .i64 (kind)))],n:=21,objs:=[.cells [.v (.int .i64 (p0.Role)), .v (.int .i64 (p0.Own)), .v (.int .i64 (p0.Since)), .sl 37 (p0.Waiting:List (El 37)) false, .v (.int .i64 (p0.Other)), .v (.int .i64 (p0.OtherTime)), .sl 55 (p0.Pending:List (El 55)) false, .v (.bool (p0.Told)), .v (.int .u64 (p0.Features)), .v (.int .u64 (p0.Common)), .v (.bool (p0.Known)), .v (.bool (p0.VersionTx)), .v (.int .i64 (p0.Version)), .v (.int .i64 (p0.Length)), .v (.int .i64 (p0.Limit)), .v (.int .u64 (p0.Salt)), .v (.int .u64 (p0.Peer)), .v (.int .u64 (p0.Mark)), .v (.int .i64 (p0.Crypt)), .v (.int .i64 (p0.Ended))]]}
def r28waits.st (p0:Procs) (kind:Int) (i:Int) (J:St El→Prop) (v:Bool): Prop:=(List.length p0.Waiting≤(9223372036854775807:Nat))→(cond (decide (i < (↑(List.length p0.Waiting): Int))) (Ob (0≤i∧i < (↑(List.length p0.Waiting): Int))∧(cond ((List.getD p0.Waiting (Int.toNat i) Control.zero).Kind==kind) (r28waits.L (true) v) (J (r28waits.hd p0 kind (IntKind.wrap IntKind.i64 (i+1)))))) (r28waits.L (false) v))
theorem r28waits.st_ok (p0:Procs) (kind:Int) (i:Int) (J:St El→Prop) (v:Bool): evCode (mkCx Tryz.prog S tab_r27Add 0) (evFun (mkCx Tryz.prog S tab_r27Add 0) 3) (loopB Tryz.prog 83 [true,false,true,false]) (r28waits.hd p0 kind i) (roundK (C:=(mkCx Tryz.prog S tab_r27Add 0)) [5,2,1] [] J (loopK (mkCx Tryz.prog S tab_r27Add 0) 3 83 [true,false,true,false] (fun r' H'=>Gives r' H' (r28waits.res v) (r28waits.news v))))= r28waits.st p0 kind i J v:=by kernel_rfl
def r28waits.rng (p0:Procs) (kind:Int) (n0:Nat) (i:Int): Prop:=0≤i∧i≤p0.Waiting.length∧(p0.Waiting.length - i).toNat < n0∧p0.Waiting.length≤1000
theorem r28waits.lp (p0:Procs) (kind:Int) (hp:p0.Waiting.length≤1000) (v:Bool) (n0:Nat) (i:Int) (hv:v=r28waits.go p0 kind n0 i) (h0:r28waits.rng p0 kind n0 i) (st:St El) (q1:okH [5,2,1] [] st=true) (q2:headS [5,2,1] [] st=r28waits.hd p0 kind i): evCode (mkCx Tryz.prog S tab_r27Add 0) (evFun (mkCx Tryz.prog S tab_r27Add 0) 3) (.loop (loopB Tryz.prog 83 [true,false,true,false])) st (loopK (mkCx Tryz.prog S tab_r27Add 0) 3 83 [true,false,true,false] (fun r' H'=>Gives r' H' (r28waits.res v) (r28waits.news v))):= by
 refine loop_ev (by kernel_rfl) (evFun_mono _ _) [5,2,1] [] (X:=Nat×Int) (fun x=>r28waits.hd p0 kind x.2) (fun x=>x.1) (fun x=>r28waits.rng p0 kind x.1 x.2∧v=r28waits.go p0 kind x.1 x.2) (n0,i) ⟨q1,q2⟩ ⟨h0,hv⟩ ?_
 clear h0 hv q1 q2
 rintro ⟨n0,i⟩ ⟨hr,hv⟩
 dsimp only at hr hv
 cases n0 with
 | zero=>exact absurd hr (by unfold r28waits.rng;omega)
 | succ n0 =>
 unfold r28waits.rng at hr
 unfold r28waits.go at hv
 refine (r28waits.st_ok p0 kind i _ _).mpr ?_
 unfold r28waits.st
 intro hlen
 revert hv;refine by_cond2 (fun hb hv=>?_) (fun hb hv=>?_)
 ·refine ⟨⟨by (try clear hv);(try clear q1 q2);(try clear hk);(first | omega | ((try simp only [decide_eq_true_eq,decide_eq_false_iff_not,Bool.not_eq_true,Bool.not_eq_false,Bool.and_eq_true,Bool.or_eq_true,Bool.not_not,cond_and,cond_or,List.length_append,List.length_cons,List.length_nil] at *);(first | done | ((first | omega | (intros;(try simp only [Bool.not_not,cond_and,cond_or,Bool.and_eq_true,decide_eq_true_eq] at *);(exact band_nn rfl _ _))| (intros;(try simp only [Bool.not_not,cond_and,cond_or,Bool.and_eq_true,decide_eq_true_eq] at *);(exact (wu64s _).2.1))| (intros;(try simp only [Bool.not_not,cond_and,cond_or,Bool.and_eq_true,decide_eq_true_eq] at *);(simp only [Bool.or_eq_false_iff,Bool.and_eq_false_iff,decide_eq_false_iff_not,decide_eq_true_eq,bne_iff_ne,beq_iff_eq,bne_eq_false_iff_eq,beq_eq_false_iff_ne,ne_eq,true_and] at *;omega))| (intros;(try simp only [Bool.not_not,cond_and,cond_or,Bool.and_eq_true,decide_eq_true_eq] at *);(simp only [List.length_drop,List.length_take,List.length_append,List.length_cons,List.length_nil] at *;omega))| (intros;(try simp only [Bool.not_not,cond_and,cond_or,Bool.and_eq_true,decide_eq_true_eq] at *);exact r1Power_ne (by omega) (by omega))| (intros;omega)| (intros;simp only [Bool.not_not,cond_and,cond_or,Bool.and_eq_true,decide_eq_true_eq] at *;omega)| (intros;simp_all [Bool.not_not];done))))))⟩, ?_⟩
  revert hv;refine by_cond2 (fun hb hv=>?_) (fun hb hv=>?_)
  ·subst hv;exact ⟨rfl,rfl⟩
  ·exact ⟨(n0,(IntKind.wrap IntKind.i64 (i+(1:Int)))),(by kernel_rfl),Nat.lt_succ_self n0,(by dsimp only;unfold r28waits.rng;(try clear hv);(try clear q1 q2);(try clear hk);(try simp only [decide_eq_true_eq,decide_eq_false_iff_not,Bool.not_eq_true,Bool.not_eq_false,Bool.and_eq_true,Bool.or_eq_true,Bool.not_not,cond_and,cond_or,List.length_append,List.length_cons,List.length_nil] at *);have:=wi64s (i+(1:Int));omega),hv⟩
 ·subst hv;exact ⟨rfl,rfl⟩
def r28waits (p0:Procs) (kind:Int): Bool:=r28waits.go p0 kind (p0.Waiting.length+1) ((0:Int))
def r28waits.dec (cs:List (AV El)): Option (Procs×Int):= popA Procs.dec cs fun a0 c0=>popI .i64 c0 fun a1 c1=>popE c1 (a0,a1)
def r28waits.enc (x:Procs×Int): List (AV El):= [Procs.av x.1, .v (.int .i64 x.2)]
theorem r28waits.dec_ok : ∀cs x,r28waits.dec cs=some x→Imp (S:=S) cs (r28waits.enc x):= by
 intro cs x h
 unfold r28waits.dec at h
 obtain ⟨a0,c0,h0,k0⟩:= popA_some (S:=S) Procs.dec_ok h
 obtain ⟨a1,c1,rfl,h1⟩:= popI_some (S:=S) h0
 obtain ⟨rfl,rfl⟩:= popE_some (S:=S) h1
 exact (k0 _ (.cons (.refl _)))
def r28waits.nf (p0:Procs) (kind:Int) (v:Bool): Prop:=evCode (mkCx Tryz.prog S tab_r27Add 0) (evFun (mkCx Tryz.prog S tab_r27Add 0) 3) (.loop (loopB Tryz.prog 83 [true,false,true,false])) ({lo:=0,slots:=[(5, .v (.int .i64 (0))),(4, .v (.bool (false))),(2, .ref 0 0),(0, .agg [.v (.int .i64 (p0.Role)), .v (.int .i64 (p0.Own)), .v (.int .i64 (p0.Since)), .sl 37 (p0.Waiting:List (El 37)) false, .v (.int .i64 (p0.Other)), .v (.int .i64 (p0.OtherTime)), .sl 55 (p0.Pending:List (El 55)) false, .v (.bool (p0.Told)), .v (.int .u64 (p0.Features)), .v (.int .u64 (p0.Common)), .v (.bool (p0.Known)), .v (.bool (p0.VersionTx)), .v (.int .i64 (p0.Version)), .v (.int .i64 (p0.Length)), .v (.int .i64 (p0.Limit)), .v (.int .u64 (p0.Salt)), .v (.int .u64 (p0.Peer)), .v (.int .u64 (p0.Mark)), .v (.int .i64 (p0.Crypt)), .v (.int .i64 (p0.Ended))]),(1, .v (.int .i64 (kind)))],n:=21,objs:=[.cells [.v (.int .i64 (p0.Role)), .v (.int .i64 (p0.Own)), .v (.int .i64 (p0.Since)), .sl 37 (p0.Waiting:List (El 37)) false, .v (.int .i64 (p0.Other)), .v (.int .i64 (p0.OtherTime)), .sl 55 (p0.Pending:List (El 55)) false, .v (.bool (p0.Told)), .v (.int .u64 (p0.Features)), .v (.int .u64 (p0.Common)), .v (.bool (p0.Known)), .v (.bool (p0.VersionTx)), .v (.int .i64 (p0.Version)), .v (.int .i64 (p0.Length)), .v (.int .i64 (p0.Limit)), .v (.int .u64 (p0.Salt)), .v (.int .u64 (p0.Peer)), .v (.int .u64 (p0.Mark)), .v (.int .i64 (p0.Crypt)), .v (.int .i64 (p0.Ended))]]}) (loopK (mkCx Tryz.prog S tab_r27Add 0) 3 83 [true,false,true,false] (fun r' H'=>Gives r' H' (r28waits.res v) (r28waits.news v)))
theorem r28waits.nf_ok (p0:Procs) (kind:Int) (v:Bool): evFun (mkCx Tryz.prog S tab_r27Add 0) 4 83 [Procs.av p0, .v (.int .i64 kind)] [] (fun r' H'=>Gives r' H' (r28waits.res v) (r28waits.news v))= r28waits.nf p0 kind v:=by kernel_rfl
theorem r28waits.key (p0:Procs) (kind:Int) (hp:p0.Waiting.length≤1000) (v:Bool) (hv:v=r28waits p0 kind): r28waits.nf p0 kind v:=by
 unfold r28waits at hv
 unfold r28waits.nf
 exact r28waits.lp p0 kind hp v _ _ hv (by unfold r28waits.rng;(try clear hv);(try clear q1 q2);(try clear hk);(first | omega | (simp only [List.length_nil];omega)| (simp;omega))) _ (by kernel_rfl) (by kernel_rfl)
def r28waits.ct:Ct El:=ctOf r28waits.dec (fun x=>[x.1.Waiting.length≤1000]) (fun x=>r28waits.res (r28waits x.1 x.2)) (fun x=>r28waits.news (r28waits x.1 x.2))
theorem r28waits.ok:CtOk (mkCx Tryz.prog S [] 0) 83 r28waits.ct:=ct_mk (C:=(mkCx Tryz.prog S tab_r27Add 0)) (mkCx_ok sigOk mixed tab_r27Add_ok 0) r28waits.dec_ok (fun x=>rfl) 4 (fun x hp=>(r28waits.nf_ok x.1 x.2 _).mpr (r28waits.key x.1 x.2 (hp _ (List.mem_singleton.2 rfl)) _ rfl))
def tab_r28waits:List (FuncId×Ct El):= (83,r28waits.ct):: tab_r27Add
theorem tab_r28waits_ok:TabOk Tryz.prog S tab_r28waits:=⟨r28waits.ok,by kernel_rfl,tab_r27Add_ok⟩
end Go.Aw.W
