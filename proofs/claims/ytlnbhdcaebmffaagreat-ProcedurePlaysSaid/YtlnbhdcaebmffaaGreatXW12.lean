/- Contracts of the seat (printed by ct.py). -/
import Derived.Test.YtlnbhdcaebmffaaGreatXW11
set_option linter.unusedVariables false
set_option linter.unusedSimpArgs false
set_option maxRecDepth 20000
set_option maxHeartbeats 1000000
namespace Go.Aw.W
open Go Go.Aw Go.Proofs
attribute [local irreducible] evCode evFun evOps evDs evOne ctxK loopK loopB subC bodyC headS okH roundK
attribute [local irreducible] cCheck loopL
def ex28.res (r:Bool): AV El:=.v (.bool (r))
def ex28.news (r:Bool): List (AObj El):= []
def ex28.L (e v:Bool): Prop:=ex28.res e=ex28.res v∧ex28.news e=ex28.news v
def ex28:Bool:=true
def ex28.dec (cs:List (AV El)): Option (Unit):= popE cs ()
def ex28.enc (x:Unit): List (AV El):= []
theorem ex28.dec_ok : ∀cs x,ex28.dec cs=some x→Imp (S:=S) cs (ex28.enc x):= by
 intro cs x h
 unfold ex28.dec at h
 obtain ⟨rfl,rfl⟩:= popE_some (S:=S) h
 exact (.refl _)
def ex28.nf (v:Bool): Prop:=Ob (List.length (procNew 0 5 100).Waiting≤(1000:Nat)∧List.length (procNew 0 5 100).Pending≤(1000:Nat))∧(Ob (List.length (procStart (procNew 0 5 100) {Kind:=20,Update:={WinSize:=0,WinOffset:=0,Interval:=0,Latency:=0,Timeout:=0:Update},Map:=0,Instant:=0,Reason:=0,Rejected:=0,Salt:=0,Mark:=0,Features:=0,Version:=0,Length:=60:Control} 3 7).fst.Waiting≤(1000:Nat)∧List.length (procStart (procNew 0 5 100) {Kind:=20,Update:={WinSize:=0,WinOffset:=0,Interval:=0,Latency:=0,Timeout:=0:Update},Map:=0,Instant:=0,Reason:=0,Rejected:=0,Salt:=0,Mark:=0,Features:=0,Version:=0,Length:=60:Control} 3 7).fst.Pending≤(1000:Nat))∧(Ob (List.length (procNew 1 6 100).Waiting≤(1000:Nat)∧List.length (procNew 1 6 100).Pending≤(1000:Nat))∧(Ob (List.length (procNew 1 6 100).Waiting≤(1000:Nat)∧List.length (procNew 1 6 100).Pending≤(1000:Nat))∧(Ob (List.length (procNew 1 6 100).Waiting≤(1000:Nat)∧List.length (procNew 1 6 100).Pending≤(1000:Nat))∧(Ob (o3 (true))∧(Ob (o3 (true))∧(Ob (false=false→true=true)∧(Ob (o3 (true))∧(Ob (true=true→(0:Int)≤(0:Int)∧0 < (↑(List.length (procStart (procNew 0 5 100) {Kind:=20,Update:={WinSize:=0,WinOffset:=0,Interval:=0,Latency:=0,Timeout:=0:Update},Map:=0,Instant:=0,Reason:=0,Rejected:=0,Salt:=0,Mark:=0,Features:=0,Version:=0,Length:=60:Control} 3 7).snd.fst): Int))∧(Ob (o3 (true))∧(Ob (o3 (true))∧(Ob (o3 (true))∧(Ob (false=false→true=true)∧(Ob (o3 (true))∧(Ob (o3 (true))∧(Ob (false=false→true=true)∧(Ob (o3 (true))∧(Ob (o3 (true))∧(Ob (false=false→true=true)∧(Ob (o3 (true))∧(Ob (o3 (true))∧(Ob (false=false→true=true)∧(Ob (o3 (true))∧(Ob (o3 (true))∧(Ob (o2 (true))∧(Ob (o3 (true))∧(Ob (true=true→(0:Int)≤(0:Int)∧0 < (↑(List.length (procHandle (procStart (procNew 0 5 100) {Kind:=20,Update:={WinSize:=0,WinOffset:=0,Interval:=0,Latency:=0,Timeout:=0:Update},Map:=0,Instant:=0,Reason:=0,Rejected:=0,Salt:=0,Mark:=0,Features:=0,Version:=0,Length:=60:Control} 3 7).fst {Kind:=21,Update:={WinSize:=0,WinOffset:=0,Interval:=0,Latency:=0,Timeout:=0:Update},Map:=0,Instant:=0,Reason:=0,Rejected:=0,Salt:=0,Mark:=0,Features:=0,Version:=0,Length:=251:Control} 4 8).snd.snd): Int))∧(Ob (o3 (true))∧(Ob (o3 (true))∧(Ob (o3 (true))∧(Ob (o2 (true))∧(Ob (o3 (true))∧(Ob (true=true→(0:Int)≤(0:Int)∧0 < (↑(List.length (procHandle (procStart (procNew 0 5 100) {Kind:=20,Update:={WinSize:=0,WinOffset:=0,Interval:=0,Latency:=0,Timeout:=0:Update},Map:=0,Instant:=0,Reason:=0,Rejected:=0,Salt:=0,Mark:=0,Features:=0,Version:=0,Length:=60:Control} 3 7).fst {Kind:=21,Update:={WinSize:=0,WinOffset:=0,Interval:=0,Latency:=0,Timeout:=0:Update},Map:=0,Instant:=0,Reason:=0,Rejected:=0,Salt:=0,Mark:=0,Features:=0,Version:=0,Length:=251:Control} 4 8).snd.snd): Int))∧(Ob (o3 (true))∧(Ob (o3 (true))∧(Ob (o3 (true))∧(Ob (o2 (true))∧(Ob (o3 (true))∧(Ob (true=true→(0:Int)≤(0:Int)∧0 < (↑(List.length (procHandle (procNew 1 6 100) {Kind:=8,Update:={WinSize:=0,WinOffset:=0,Interval:=0,Latency:=0,Timeout:=0:Update},Map:=0,Instant:=0,Reason:=0,Rejected:=0,Salt:=0,Mark:=0,Features:=3,Version:=0,Length:=0:Control} 0 0).snd.fst): Int))∧(Ob (o3 (true))∧(Ob (o3 (true))∧(Ob (o3 (true))∧(Ob (o2 (true))∧(Ob (o3 (true))∧(Ob (true=true→(0:Int)≤(0:Int)∧0 < (↑(List.length (procHandle (procNew 1 6 100) {Kind:=8,Update:={WinSize:=0,WinOffset:=0,Interval:=0,Latency:=0,Timeout:=0:Update},Map:=0,Instant:=0,Reason:=0,Rejected:=0,Salt:=0,Mark:=0,Features:=3,Version:=0,Length:=0:Control} 0 0).snd.fst): Int))∧(Ob (o3 (true))∧(Ob (o3 (true))∧(Ob (o3 (true))∧(Ob (o2 (true))∧(Ob (o3 (true))∧(Ob (o3 (true))∧(Ob (o2 (true))∧(Ob (o3 (true))∧(Ob (o2 (true))∧(Ob (o3 (true))∧(Ob (true=true→(0:Int)≤(0:Int)∧0 < (↑(List.length (procHandle (procNew 1 6 100) {Kind:=99,Update:={WinSize:=0,WinOffset:=0,Interval:=0,Latency:=0,Timeout:=0:Update},Map:=0,Instant:=0,Reason:=0,Rejected:=0,Salt:=0,Mark:=0,Features:=0,Version:=0,Length:=0:Control} 0 0).snd.fst): Int))∧(Ob (o3 (true))∧(Ob (o3 (true))∧(Ob (o3 (true))∧(Ob (o2 (true))∧(Ob (o3 (true))∧(Ob (true=true→(0:Int)≤(0:Int)∧0 < (↑(List.length (procHandle (procNew 1 6 100) {Kind:=99,Update:={WinSize:=0,WinOffset:=0,Interval:=0,Latency:=0,Timeout:=0:Update},Map:=0,Instant:=0,Reason:=0,Rejected:=0,Salt:=0,Mark:=0,Features:=0,Version:=0,Length:=0:Control} 0 0).snd.fst): Int))∧(Ob (o3 (true))∧(Ob (o3 (true))∧(Ob (o3 (true))∧(Ob (o2 (true))∧(ex28.L (true) v)))))))))))))))))))))))))))))))))))))))))))))))))))))))))))))))))))
theorem ex28.nf_ok (v:Bool): evFun (mkCxQ Tryz.prog S tab_procSent 0 true true sum0 36 handlersQ) 4 4 [] [] (fun r' H'=>Gives r' H' (ex28.res v) (ex28.news v))= ex28.nf v:=by kernel_rfl
theorem ex28.key (v:Bool) (hv:v=ex28): ex28.nf v:=by
 unfold ex28 at hv
 unfold ex28.nf
 refine ⟨⟨?_⟩, ?_⟩;rotate_left
 refine ⟨⟨?_⟩, ?_⟩;rotate_left
 refine ⟨⟨?_⟩, ?_⟩;rotate_left
 refine ⟨⟨?_⟩, ?_⟩;rotate_left
 refine ⟨⟨?_⟩, ?_⟩;rotate_left
 iterate 2 refine ⟨⟨o3_ok _⟩, ?_⟩
 refine ⟨⟨?_⟩, ?_⟩;rotate_left
 refine ⟨⟨o3_ok _⟩, ?_⟩
 refine ⟨⟨?_⟩, ?_⟩;rotate_left
 iterate 3 refine ⟨⟨o3_ok _⟩, ?_⟩
 refine ⟨⟨?_⟩, ?_⟩;rotate_left
 iterate 2 refine ⟨⟨o3_ok _⟩, ?_⟩
 refine ⟨⟨?_⟩, ?_⟩;rotate_left
 iterate 2 refine ⟨⟨o3_ok _⟩, ?_⟩
 refine ⟨⟨?_⟩, ?_⟩;rotate_left
 iterate 2 refine ⟨⟨o3_ok _⟩, ?_⟩
 refine ⟨⟨?_⟩, ?_⟩;rotate_left
 iterate 2 refine ⟨⟨o3_ok _⟩, ?_⟩
 refine ⟨⟨o2_ok _⟩, ?_⟩
 refine ⟨⟨o3_ok _⟩, ?_⟩
 refine ⟨⟨?_⟩, ?_⟩;rotate_left
 iterate 3 refine ⟨⟨o3_ok _⟩, ?_⟩
 refine ⟨⟨o2_ok _⟩, ?_⟩
 refine ⟨⟨o3_ok _⟩, ?_⟩
 refine ⟨⟨?_⟩, ?_⟩;rotate_left
 iterate 3 refine ⟨⟨o3_ok _⟩, ?_⟩
 refine ⟨⟨o2_ok _⟩, ?_⟩
 refine ⟨⟨o3_ok _⟩, ?_⟩
 refine ⟨⟨?_⟩, ?_⟩;rotate_left
 iterate 3 refine ⟨⟨o3_ok _⟩, ?_⟩
 refine ⟨⟨o2_ok _⟩, ?_⟩
 refine ⟨⟨o3_ok _⟩, ?_⟩
 refine ⟨⟨?_⟩, ?_⟩;rotate_left
 iterate 3 refine ⟨⟨o3_ok _⟩, ?_⟩
 refine ⟨⟨o2_ok _⟩, ?_⟩
 iterate 2 refine ⟨⟨o3_ok _⟩, ?_⟩
 refine ⟨⟨o2_ok _⟩, ?_⟩
 refine ⟨⟨o3_ok _⟩, ?_⟩
 refine ⟨⟨o2_ok _⟩, ?_⟩
 refine ⟨⟨o3_ok _⟩, ?_⟩
 refine ⟨⟨?_⟩, ?_⟩;rotate_left
 iterate 3 refine ⟨⟨o3_ok _⟩, ?_⟩
 refine ⟨⟨o2_ok _⟩, ?_⟩
 refine ⟨⟨o3_ok _⟩, ?_⟩
 refine ⟨⟨?_⟩, ?_⟩;rotate_left
 iterate 3 refine ⟨⟨o3_ok _⟩, ?_⟩
 refine ⟨⟨o2_ok _⟩, ?_⟩
 subst hv;exact ⟨rfl,rfl⟩
 all_goals ((try clear hv);(try clear q1 q2);(try clear hk);(first | omega | (decide +kernel)| ((try simp only [decide_eq_true_eq,decide_eq_false_iff_not,Bool.not_eq_true,Bool.not_eq_false,Bool.and_eq_true,Bool.or_eq_true,Bool.not_not,cond_and,cond_or,List.length_append,List.length_cons,List.length_nil] at *);(first | done | ((first | omega | (intros;(try simp only [Bool.not_not,cond_and,cond_or,Bool.and_eq_true,decide_eq_true_eq] at *);(exact band_nn rfl _ _))| (intros;(try simp only [Bool.not_not,cond_and,cond_or,Bool.and_eq_true,decide_eq_true_eq] at *);(exact (wu64s _).2.1))| (intros;(try simp only [Bool.not_not,cond_and,cond_or,Bool.and_eq_true,decide_eq_true_eq] at *);(simp only [Bool.or_eq_false_iff,Bool.and_eq_false_iff,decide_eq_false_iff_not,decide_eq_true_eq,bne_iff_ne,beq_iff_eq,bne_eq_false_iff_eq,beq_eq_false_iff_ne,ne_eq,true_and] at *;omega))| (intros;(try simp only [Bool.not_not,cond_and,cond_or,Bool.and_eq_true,decide_eq_true_eq] at *);(simp only [List.length_drop,List.length_take,List.length_append,List.length_cons,List.length_nil] at *;omega))| (intros;omega)| (intros;simp only [Bool.not_not,cond_and,cond_or,Bool.and_eq_true,decide_eq_true_eq] at *;omega)| (intros;simp_all [Bool.not_not];done)))))))
def ex28.ct:Ct El:=ctOf ex28.dec (fun _=>[]) (fun x=>ex28.res (ex28)) (fun x=>ex28.news (ex28))
theorem ex28.ok:CtOk (mkCx Tryz.prog S [] 0) 4 ex28.ct:=ct_mk (C:=(mkCxQ Tryz.prog S tab_procSent 0 true true sum0 36 handlersQ)) (mkCxQ_ok sigOk mixed tab_procSent_ok 0 true true (sum0_ok Tryz.prog S) handlers.poly) ex28.dec_ok (fun x=>rfl) 4 (fun x _=>(ex28.nf_ok _).mpr (ex28.key _ rfl))
def tab_ex28:List (FuncId×Ct El):= (4,ex28.ct):: tab_procSent
theorem tab_ex28_ok:TabOk Tryz.prog S tab_ex28:=⟨ex28.ok,by kernel_rfl,tab_procSent_ok⟩
end Go.Aw.W
