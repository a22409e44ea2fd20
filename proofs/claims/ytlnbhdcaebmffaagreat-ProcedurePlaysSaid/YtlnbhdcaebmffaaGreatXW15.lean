/- Contracts of the seat (printed by ct.py). -/
import Derived.Test.YtlnbhdcaebmffaaGreatXW14
set_option linter.unusedVariables false
set_option linter.unusedSimpArgs false
set_option maxRecDepth 20000
set_option maxHeartbeats 1000000
namespace Go.Aw.W
open Go Go.Aw Go.Proofs
attribute [local irreducible] evCode evFun evOps evDs evOne ctxK loopK loopB subC bodyC headS okH roundK
attribute [local irreducible] cCheck loopL
def procDue.res (r:Procs×(List Change)): AV El:=.tup [Procs.av (r.1), .sl 55 (r.2:List (El 55)) false]
def procDue.news (r:Procs×(List Change)): List (AObj El):= []
def procDue.L (e v:Procs×(List Change)): Prop:=procDue.res e=procDue.res v∧procDue.news e=procDue.news v
def procDue (s:Procs) (event:Int): Procs×(List Change):= cond (decide (0 < (↑(List.length (insDue s.Pending event).snd): Int))) (cond (bif bif decide (0 < (↑(List.length (insDue s.Pending event).snd): Int)) then s.Role != 1 else false then !s.Told else false) (cond (s.Ended==0) ((({s with Pending:=(insDue s.Pending event).fst,Ended:=40}: Procs),[])) ((({s with Pending:=(insDue s.Pending event).fst}: Procs),[]))) (cond (decide (0 < (↑(List.length (insDue s.Pending event).snd): Int))) (cond (s.Own==(List.getD (insDue s.Pending event).snd (Int.toNat 0) Change.zero).Kind) (cond (s.Other==(List.getD (insDue s.Pending event).snd (Int.toNat 0) Change.zero).Kind) (cond (decide (IntKind.wrap IntKind.i64 ((0:Int)+ (1:Int)) < (↑(List.length (insDue s.Pending event).snd): Int))) (cond ((-1)== (List.getD (insDue s.Pending event).snd (Int.toNat (IntKind.wrap IntKind.i64 ((0:Int)+ (1:Int)))) Change.zero).Kind) (cond ((-1)== (List.getD (insDue s.Pending event).snd (Int.toNat (IntKind.wrap IntKind.i64 ((0:Int)+ (1:Int)))) Change.zero).Kind) ((Procs.zero,[])) ((Procs.zero,[]))) (cond ((-1)== (List.getD (insDue s.Pending event).snd (Int.toNat (IntKind.wrap IntKind.i64 ((0:Int)+ (1:Int)))) Change.zero).Kind) ((Procs.zero,[])) ((Procs.zero,[])))) ((({s with Own:=(-1),Other:=(-1),Pending:=(insDue s.Pending event).fst}: Procs),(insDue s.Pending event).snd))) (cond (decide (IntKind.wrap IntKind.i64 ((0:Int)+ (1:Int)) < (↑(List.length (insDue s.Pending event).snd): Int))) (cond ((-1)== (List.getD (insDue s.Pending event).snd (Int.toNat (IntKind.wrap IntKind.i64 ((0:Int)+ (1:Int)))) Change.zero).Kind) (cond (s.Other==(List.getD (insDue s.Pending event).snd (Int.toNat (IntKind.wrap IntKind.i64 ((0:Int)+ (1:Int)))) Change.zero).Kind) ((Procs.zero,[])) ((Procs.zero,[]))) (cond (s.Other==(List.getD (insDue s.Pending event).snd (Int.toNat (IntKind.wrap IntKind.i64 ((0:Int)+ (1:Int)))) Change.zero).Kind) ((Procs.zero,[])) ((Procs.zero,[])))) ((({s with Own:=(-1),Pending:=(insDue s.Pending event).fst}: Procs),(insDue s.Pending event).snd)))) (cond (s.Other==(List.getD (insDue s.Pending event).snd (Int.toNat 0) Change.zero).Kind) (cond (decide (IntKind.wrap IntKind.i64 ((0:Int)+ (1:Int)) < (↑(List.length (insDue s.Pending event).snd): Int))) (cond (s.Own==(List.getD (insDue s.Pending event).snd (Int.toNat (IntKind.wrap IntKind.i64 ((0:Int)+ (1:Int)))) Change.zero).Kind) (cond ((-1)== (List.getD (insDue s.Pending event).snd (Int.toNat (IntKind.wrap IntKind.i64 ((0:Int)+ (1:Int)))) Change.zero).Kind) ((Procs.zero,[])) ((Procs.zero,[]))) (cond ((-1)== (List.getD (insDue s.Pending event).snd (Int.toNat (IntKind.wrap IntKind.i64 ((0:Int)+ (1:Int)))) Change.zero).Kind) ((Procs.zero,[])) ((Procs.zero,[])))) ((({s with Other:=(-1),Pending:=(insDue s.Pending event).fst}: Procs),(insDue s.Pending event).snd))) (cond (decide (IntKind.wrap IntKind.i64 ((0:Int)+ (1:Int)) < (↑(List.length (insDue s.Pending event).snd): Int))) (cond (s.Own==(List.getD (insDue s.Pending event).snd (Int.toNat (IntKind.wrap IntKind.i64 ((0:Int)+ (1:Int)))) Change.zero).Kind) (cond (s.Other==(List.getD (insDue s.Pending event).snd (Int.toNat (IntKind.wrap IntKind.i64 ((0:Int)+ (1:Int)))) Change.zero).Kind) ((Procs.zero,[])) ((Procs.zero,[]))) (cond (s.Other==(List.getD (insDue s.Pending event).snd (Int.toNat (IntKind.wrap IntKind.i64 ((0:Int)+ (1:Int)))) Change.zero).Kind) ((Procs.zero,[])) ((Procs.zero,[])))) ((({s with Pending:=(insDue s.Pending event).fst}: Procs),(insDue s.Pending event).snd))))) ((({s with Pending:=(insDue s.Pending event).fst}: Procs),(insDue s.Pending event).snd)))) (cond (bif bif decide (0 < (↑(List.length (insDue s.Pending event).snd): Int)) then false else false then !s.Told else false) (cond (s.Ended==0) ((({s with Pending:=(insDue s.Pending event).fst,Ended:=40}: Procs),[])) ((({s with Pending:=(insDue s.Pending event).fst}: Procs),[]))) (cond (decide (0 < (↑(List.length (insDue s.Pending event).snd): Int))) (cond (s.Own==(List.getD (insDue s.Pending event).snd (Int.toNat 0) Change.zero).Kind) (cond (s.Other==(List.getD (insDue s.Pending event).snd (Int.toNat 0) Change.zero).Kind) (cond (decide (IntKind.wrap IntKind.i64 ((0:Int)+ (1:Int)) < (↑(List.length (insDue s.Pending event).snd): Int))) (cond ((-1)== (List.getD (insDue s.Pending event).snd (Int.toNat (IntKind.wrap IntKind.i64 ((0:Int)+ (1:Int)))) Change.zero).Kind) (cond ((-1)== (List.getD (insDue s.Pending event).snd (Int.toNat (IntKind.wrap IntKind.i64 ((0:Int)+ (1:Int)))) Change.zero).Kind) ((Procs.zero,[])) ((Procs.zero,[]))) (cond ((-1)== (List.getD (insDue s.Pending event).snd (Int.toNat (IntKind.wrap IntKind.i64 ((0:Int)+ (1:Int)))) Change.zero).Kind) ((Procs.zero,[])) ((Procs.zero,[])))) ((({s with Own:=(-1),Other:=(-1),Pending:=(insDue s.Pending event).fst}: Procs),(insDue s.Pending event).snd))) (cond (decide (IntKind.wrap IntKind.i64 ((0:Int)+ (1:Int)) < (↑(List.length (insDue s.Pending event).snd): Int))) (cond ((-1)== (List.getD (insDue s.Pending event).snd (Int.toNat (IntKind.wrap IntKind.i64 ((0:Int)+ (1:Int)))) Change.zero).Kind) (cond (s.Other==(List.getD (insDue s.Pending event).snd (Int.toNat (IntKind.wrap IntKind.i64 ((0:Int)+ (1:Int)))) Change.zero).Kind) ((Procs.zero,[])) ((Procs.zero,[]))) (cond (s.Other==(List.getD (insDue s.Pending event).snd (Int.toNat (IntKind.wrap IntKind.i64 ((0:Int)+ (1:Int)))) Change.zero).Kind) ((Procs.zero,[])) ((Procs.zero,[])))) ((({s with Own:=(-1),Pending:=(insDue s.Pending event).fst}: Procs),(insDue s.Pending event).snd)))) (cond (s.Other==(List.getD (insDue s.Pending event).snd (Int.toNat 0) Change.zero).Kind) (cond (decide (IntKind.wrap IntKind.i64 ((0:Int)+ (1:Int)) < (↑(List.length (insDue s.Pending event).snd): Int))) (cond (s.Own==(List.getD (insDue s.Pending event).snd (Int.toNat (IntKind.wrap IntKind.i64 ((0:Int)+ (1:Int)))) Change.zero).Kind) (cond ((-1)== (List.getD (insDue s.Pending event).snd (Int.toNat (IntKind.wrap IntKind.i64 ((0:Int)+ (1:Int)))) Change.zero).Kind) ((Procs.zero,[])) ((Procs.zero,[]))) (cond ((-1)== (List.getD (insDue s.Pending event).snd (Int.toNat (IntKind.wrap IntKind.i64 ((0:Int)+ (1:Int)))) Change.zero).Kind) ((Procs.zero,[])) ((Procs.zero,[])))) ((({s with Other:=(-1),Pending:=(insDue s.Pending event).fst}: Procs),(insDue s.Pending event).snd))) (cond (decide (IntKind.wrap IntKind.i64 ((0:Int)+ (1:Int)) < (↑(List.length (insDue s.Pending event).snd): Int))) (cond (s.Own==(List.getD (insDue s.Pending event).snd (Int.toNat (IntKind.wrap IntKind.i64 ((0:Int)+ (1:Int)))) Change.zero).Kind) (cond (s.Other==(List.getD (insDue s.Pending event).snd (Int.toNat (IntKind.wrap IntKind.i64 ((0:Int)+ (1:Int)))) Change.zero).Kind) ((Procs.zero,[])) ((Procs.zero,[]))) (cond (s.Other==(List.getD (insDue s.Pending event).snd (Int.toNat (IntKind.wrap IntKind.i64 ((0:Int)+ (1:Int)))) Change.zero).Kind) ((Procs.zero,[])) ((Procs.zero,[])))) ((({s with Pending:=(insDue s.Pending event).fst}: Procs),(insDue s.Pending event).snd))))) ((({s with Pending:=(insDue s.Pending event).fst}: Procs),(insDue s.Pending event).snd))))
def procDue.dec (cs:List (AV El)): Option (Procs×Int):= popA Procs.dec cs fun a0 c0=>popI .u16 c0 fun a1 c1=>popE c1 (a0,a1)
def procDue.enc (x:Procs×Int): List (AV El):= [Procs.av x.1, .v (.int .u16 x.2)]
theorem procDue.dec_ok : ∀cs x,procDue.dec cs=some x→Imp (S:=S) cs (procDue.enc x):= by
 intro cs x h
 unfold procDue.dec at h
 obtain ⟨a0,c0,h0,k0⟩:= popA_some (S:=S) Procs.dec_ok h
 obtain ⟨a1,c1,rfl,h1⟩:= popI_some (S:=S) h0
 obtain ⟨rfl,rfl⟩:= popE_some (S:=S) h1
 exact (k0 _ (.cons (.refl _)))
def procDue_nf_g1 (s:Procs) (event:Int): Bool:=decide ((0:Int) < (↑(List.length (insDue s.Pending event).snd): Int))
def procDue_nf_g2 (s:Procs) (event:Int): Bool:=bif (procDue_nf_g1 s event) then (s.Role != (1:Int)) else false
def procDue_nf_g3 (s:Procs) (event:Int): Bool:=bif (procDue_nf_g1 s event) then false else false
def procDue.nf (s:Procs) (event:Int) (v:Procs×(List Change)): Prop:=Ob (List.length s.Waiting*(120:Nat)≤(140737488355328:Nat))∧(Ob (List.length s.Pending*(64:Nat)≤(140737488355328:Nat))∧(Ob (List.length s.Pending≤(1:Nat))∧((List.length (insDue s.Pending event).snd≤(9223372036854775807:Nat))→(cond (decide (0 < (↑(List.length (insDue s.Pending event).snd): Int))) (Ob (decide (0 < (↑(List.length (insDue s.Pending event).snd): Int))= true)∧(Ob (o3 (procDue_nf_g2 s event))∧(Ob (o3 (procDue_nf_g2 s event))∧(Ob (o3 (procDue_nf_g2 s event))∧(Ob (o3 (procDue_nf_g2 s event))∧(Ob (o3 (procDue_nf_g2 s event))∧(Ob (o2 (procDue_nf_g2 s event))∧(cond (bif bif decide (0 < (↑(List.length (insDue s.Pending event).snd): Int)) then s.Role != 1 else false then !s.Told else false) (cond (s.Ended==0) (procDue.L ((({s with Pending:=(insDue s.Pending event).fst,Ended:=40}: Procs),[])) v) (procDue.L ((({s with Pending:=(insDue s.Pending event).fst}: Procs),[])) v)) ((List.length (insDue s.Pending event).snd≤(9223372036854775807:Nat))→(cond (decide (0 < (↑(List.length (insDue s.Pending event).snd): Int))) (Ob ((0:Int)≤(0:Int)∧0 < (↑(List.length (insDue s.Pending event).snd): Int))∧(cond (s.Own==(List.getD (insDue s.Pending event).snd (Int.toNat 0) Change.zero).Kind) (cond (s.Other==(List.getD (insDue s.Pending event).snd (Int.toNat 0) Change.zero).Kind) (cond (decide (IntKind.wrap IntKind.i64 ((0:Int)+ (1:Int)) < (↑(List.length (insDue s.Pending event).snd): Int))) (Ob (0≤IntKind.wrap IntKind.i64 ((0:Int)+ (1:Int))∧IntKind.wrap IntKind.i64 ((0:Int)+ (1:Int)) < (↑(List.length (insDue s.Pending event).snd): Int))∧(cond ((-1)== (List.getD (insDue s.Pending event).snd (Int.toNat (IntKind.wrap IntKind.i64 ((0:Int)+ (1:Int)))) Change.zero).Kind) (cond ((-1)== (List.getD (insDue s.Pending event).snd (Int.toNat (IntKind.wrap IntKind.i64 ((0:Int)+ (1:Int)))) Change.zero).Kind) (False) (False)) (cond ((-1)== (List.getD (insDue s.Pending event).snd (Int.toNat (IntKind.wrap IntKind.i64 ((0:Int)+ (1:Int)))) Change.zero).Kind) (False) (False)))) (procDue.L ((({s with Own:=(-1),Other:=(-1),Pending:=(insDue s.Pending event).fst}: Procs),(insDue s.Pending event).snd)) v)) (cond (decide (IntKind.wrap IntKind.i64 ((0:Int)+ (1:Int)) < (↑(List.length (insDue s.Pending event).snd): Int))) (Ob (0≤IntKind.wrap IntKind.i64 ((0:Int)+ (1:Int))∧IntKind.wrap IntKind.i64 ((0:Int)+ (1:Int)) < (↑(List.length (insDue s.Pending event).snd): Int))∧(cond ((-1)== (List.getD (insDue s.Pending event).snd (Int.toNat (IntKind.wrap IntKind.i64 ((0:Int)+ (1:Int)))) Change.zero).Kind) (cond (s.Other==(List.getD (insDue s.Pending event).snd (Int.toNat (IntKind.wrap IntKind.i64 ((0:Int)+ (1:Int)))) Change.zero).Kind) (False) (False)) (cond (s.Other==(List.getD (insDue s.Pending event).snd (Int.toNat (IntKind.wrap IntKind.i64 ((0:Int)+ (1:Int)))) Change.zero).Kind) (False) (False)))) (procDue.L ((({s with Own:=(-1),Pending:=(insDue s.Pending event).fst}: Procs),(insDue s.Pending event).snd)) v))) (cond (s.Other==(List.getD (insDue s.Pending event).snd (Int.toNat 0) Change.zero).Kind) (cond (decide (IntKind.wrap IntKind.i64 ((0:Int)+ (1:Int)) < (↑(List.length (insDue s.Pending event).snd): Int))) (Ob (0≤IntKind.wrap IntKind.i64 ((0:Int)+ (1:Int))∧IntKind.wrap IntKind.i64 ((0:Int)+ (1:Int)) < (↑(List.length (insDue s.Pending event).snd): Int))∧(cond (s.Own==(List.getD (insDue s.Pending event).snd (Int.toNat (IntKind.wrap IntKind.i64 ((0:Int)+ (1:Int)))) Change.zero).Kind) (cond ((-1)== (List.getD (insDue s.Pending event).snd (Int.toNat (IntKind.wrap IntKind.i64 ((0:Int)+ (1:Int)))) Change.zero).Kind) (False) (False)) (cond ((-1)== (List.getD (insDue s.Pending event).snd (Int.toNat (IntKind.wrap IntKind.i64 ((0:Int)+ (1:Int)))) Change.zero).Kind) (False) (False)))) (procDue.L ((({s with Other:=(-1),Pending:=(insDue s.Pending event).fst}: Procs),(insDue s.Pending event).snd)) v)) (cond (decide (IntKind.wrap IntKind.i64 ((0:Int)+ (1:Int)) < (↑(List.length (insDue s.Pending event).snd): Int))) (Ob (0≤IntKind.wrap IntKind.i64 ((0:Int)+ (1:Int))∧IntKind.wrap IntKind.i64 ((0:Int)+ (1:Int)) < (↑(List.length (insDue s.Pending event).snd): Int))∧(cond (s.Own==(List.getD (insDue s.Pending event).snd (Int.toNat (IntKind.wrap IntKind.i64 ((0:Int)+ (1:Int)))) Change.zero).Kind) (cond (s.Other==(List.getD (insDue s.Pending event).snd (Int.toNat (IntKind.wrap IntKind.i64 ((0:Int)+ (1:Int)))) Change.zero).Kind) (False) (False)) (cond (s.Other==(List.getD (insDue s.Pending event).snd (Int.toNat (IntKind.wrap IntKind.i64 ((0:Int)+ (1:Int)))) Change.zero).Kind) (False) (False)))) (procDue.L ((({s with Pending:=(insDue s.Pending event).fst}: Procs),(insDue s.Pending event).snd)) v))))) (procDue.L ((({s with Pending:=(insDue s.Pending event).fst}: Procs),(insDue s.Pending event).snd)) v))))))))))) (Ob (o2 (procDue_nf_g1 s event))∧(Ob (o3 (procDue_nf_g3 s event))∧(Ob (o3 (procDue_nf_g3 s event))∧(Ob (o3 (procDue_nf_g3 s event))∧(Ob (o3 (procDue_nf_g3 s event))∧(Ob (o3 (procDue_nf_g3 s event))∧(Ob (o2 (procDue_nf_g3 s event))∧(cond (bif bif decide (0 < (↑(List.length (insDue s.Pending event).snd): Int)) then false else false then !s.Told else false) (cond (s.Ended==0) (procDue.L ((({s with Pending:=(insDue s.Pending event).fst,Ended:=40}: Procs),[])) v) (procDue.L ((({s with Pending:=(insDue s.Pending event).fst}: Procs),[])) v)) ((List.length (insDue s.Pending event).snd≤(9223372036854775807:Nat))→(cond (decide (0 < (↑(List.length (insDue s.Pending event).snd): Int))) (Ob ((0:Int)≤(0:Int)∧0 < (↑(List.length (insDue s.Pending event).snd): Int))∧(cond (s.Own==(List.getD (insDue s.Pending event).snd (Int.toNat 0) Change.zero).Kind) (cond (s.Other==(List.getD (insDue s.Pending event).snd (Int.toNat 0) Change.zero).Kind) (cond (decide (IntKind.wrap IntKind.i64 ((0:Int)+ (1:Int)) < (↑(List.length (insDue s.Pending event).snd): Int))) (Ob (0≤IntKind.wrap IntKind.i64 ((0:Int)+ (1:Int))∧IntKind.wrap IntKind.i64 ((0:Int)+ (1:Int)) < (↑(List.length (insDue s.Pending event).snd): Int))∧(cond ((-1)== (List.getD (insDue s.Pending event).snd (Int.toNat (IntKind.wrap IntKind.i64 ((0:Int)+ (1:Int)))) Change.zero).Kind) (cond ((-1)== (List.getD (insDue s.Pending event).snd (Int.toNat (IntKind.wrap IntKind.i64 ((0:Int)+ (1:Int)))) Change.zero).Kind) (False) (False)) (cond ((-1)== (List.getD (insDue s.Pending event).snd (Int.toNat (IntKind.wrap IntKind.i64 ((0:Int)+ (1:Int)))) Change.zero).Kind) (False) (False)))) (procDue.L ((({s with Own:=(-1),Other:=(-1),Pending:=(insDue s.Pending event).fst}: Procs),(insDue s.Pending event).snd)) v)) (cond (decide (IntKind.wrap IntKind.i64 ((0:Int)+ (1:Int)) < (↑(List.length (insDue s.Pending event).snd): Int))) (Ob (0≤IntKind.wrap IntKind.i64 ((0:Int)+ (1:Int))∧IntKind.wrap IntKind.i64 ((0:Int)+ (1:Int)) < (↑(List.length (insDue s.Pending event).snd): Int))∧(cond ((-1)== (List.getD (insDue s.Pending event).snd (Int.toNat (IntKind.wrap IntKind.i64 ((0:Int)+ (1:Int)))) Change.zero).Kind) (cond (s.Other==(List.getD (insDue s.Pending event).snd (Int.toNat (IntKind.wrap IntKind.i64 ((0:Int)+ (1:Int)))) Change.zero).Kind) (False) (False)) (cond (s.Other==(List.getD (insDue s.Pending event).snd (Int.toNat (IntKind.wrap IntKind.i64 ((0:Int)+ (1:Int)))) Change.zero).Kind) (False) (False)))) (procDue.L ((({s with Own:=(-1),Pending:=(insDue s.Pending event).fst}: Procs),(insDue s.Pending event).snd)) v))) (cond (s.Other==(List.getD (insDue s.Pending event).snd (Int.toNat 0) Change.zero).Kind) (cond (decide (IntKind.wrap IntKind.i64 ((0:Int)+ (1:Int)) < (↑(List.length (insDue s.Pending event).snd): Int))) (Ob (0≤IntKind.wrap IntKind.i64 ((0:Int)+ (1:Int))∧IntKind.wrap IntKind.i64 ((0:Int)+ (1:Int)) < (↑(List.length (insDue s.Pending event).snd): Int))∧(cond (s.Own==(List.getD (insDue s.Pending event).snd (Int.toNat (IntKind.wrap IntKind.i64 ((0:Int)+ (1:Int)))) Change.zero).Kind) (cond ((-1)== (List.getD (insDue s.Pending event).snd (Int.toNat (IntKind.wrap IntKind.i64 ((0:Int)+ (1:Int)))) Change.zero).Kind) (False) (False)) (cond ((-1)== (List.getD (insDue s.Pending event).snd (Int.toNat (IntKind.wrap IntKind.i64 ((0:Int)+ (1:Int)))) Change.zero).Kind) (False) (False)))) (procDue.L ((({s with Other:=(-1),Pending:=(insDue s.Pending event).fst}: Procs),(insDue s.Pending event).snd)) v)) (cond (decide (IntKind.wrap IntKind.i64 ((0:Int)+ (1:Int)) < (↑(List.length (insDue s.Pending event).snd): Int))) (Ob (0≤IntKind.wrap IntKind.i64 ((0:Int)+ (1:Int))∧IntKind.wrap IntKind.i64 ((0:Int)+ (1:Int)) < (↑(List.length (insDue s.Pending event).snd): Int))∧(cond (s.Own==(List.getD (insDue s.Pending event).snd (Int.toNat (IntKind.wrap IntKind.i64 ((0:Int)+ (1:Int)))) Change.zero).Kind) (cond (s.Other==(List.getD (insDue s.Pending event).snd (Int.toNat (IntKind.wrap IntKind.i64 ((0:Int)+ (1:Int)))) Change.zero).Kind) (False) (False)) (cond (s.Other==(List.getD (insDue s.Pending event).snd (Int.toNat (IntKind.wrap IntKind.i64 ((0:Int)+ (1:Int)))) Change.zero).Kind) (False) (False)))) (procDue.L ((({s with Pending:=(insDue s.Pending event).fst}: Procs),(insDue s.Pending event).snd)) v))))) (procDue.L ((({s with Pending:=(insDue s.Pending event).fst}: Procs),(insDue s.Pending event).snd)) v)))))))))))))))
theorem procDue.nf_ok (s:Procs) (event:Int) (v:Procs×(List Change)): evFun (mkCxN Tryz.prog S tab_insDue 2 []) 6 22 [Procs.av s, .v (.int .u16 event)] [] (fun r' H'=>Gives r' H' (procDue.res v) (procDue.news v))= procDue.nf s event v:=by kernel_rfl
theorem procDue.key (s:Procs) (event:Int) (hp:s.Waiting.length≤1000∧s.Pending.length≤1) (v:Procs×(List Change)) (hv:v=procDue s event): procDue.nf s event v:=by
 unfold procDue at hv
 unfold procDue.nf
 refine ⟨⟨?_⟩, ?_⟩;rotate_left
 refine ⟨⟨?_⟩, ?_⟩;rotate_left
 refine ⟨⟨?_⟩, ?_⟩;rotate_left
 intro hlen
 revert hv;refine by_cond2 (fun hb hv=>?_) (fun hb hv=>?_)
 refine ⟨⟨?_⟩, ?_⟩;rotate_left
 iterate 5 refine ⟨⟨o3_ok _⟩, ?_⟩
 refine ⟨⟨o2_ok _⟩, ?_⟩
 revert hv;refine by_cond2 (fun hb hv=>?_) (fun hb hv=>?_)
 revert hv;refine by_cond2 (fun hb hv=>?_) (fun hb hv=>?_)
 subst hv;exact ⟨rfl,rfl⟩
 subst hv;exact ⟨rfl,rfl⟩
 intro hlen
 revert hv;refine by_cond2 (fun hb hv=>?_) (fun hb hv=>?_)
 refine ⟨⟨?_⟩, ?_⟩;rotate_left
 revert hv;refine by_cond2 (fun hb hv=>?_) (fun hb hv=>?_)
 revert hv;refine by_cond2 (fun hb hv=>?_) (fun hb hv=>?_)
 revert hv;refine by_cond2 (fun hb hv=>?_) (fun hb hv=>?_)
 refine ⟨⟨?_⟩, ?_⟩;rotate_left
 revert hv;refine by_cond2 (fun hb hv=>?_) (fun hb hv=>?_)
 revert hv;refine by_cond2 (fun hb hv=>?_) (fun hb hv=>?_)
 refine False.elim ?_;rotate_left
 refine False.elim ?_;rotate_left
 revert hv;refine by_cond2 (fun hb hv=>?_) (fun hb hv=>?_)
 refine False.elim ?_;rotate_left
 refine False.elim ?_;rotate_left
 subst hv;exact ⟨rfl,rfl⟩
 revert hv;refine by_cond2 (fun hb hv=>?_) (fun hb hv=>?_)
 refine ⟨⟨?_⟩, ?_⟩;rotate_left
 revert hv;refine by_cond2 (fun hb hv=>?_) (fun hb hv=>?_)
 revert hv;refine by_cond2 (fun hb hv=>?_) (fun hb hv=>?_)
 refine False.elim ?_;rotate_left
 refine False.elim ?_;rotate_left
 revert hv;refine by_cond2 (fun hb hv=>?_) (fun hb hv=>?_)
 refine False.elim ?_;rotate_left
 refine False.elim ?_;rotate_left
 subst hv;exact ⟨rfl,rfl⟩
 revert hv;refine by_cond2 (fun hb hv=>?_) (fun hb hv=>?_)
 revert hv;refine by_cond2 (fun hb hv=>?_) (fun hb hv=>?_)
 refine ⟨⟨?_⟩, ?_⟩;rotate_left
 revert hv;refine by_cond2 (fun hb hv=>?_) (fun hb hv=>?_)
 revert hv;refine by_cond2 (fun hb hv=>?_) (fun hb hv=>?_)
 refine False.elim ?_;rotate_left
 refine False.elim ?_;rotate_left
 revert hv;refine by_cond2 (fun hb hv=>?_) (fun hb hv=>?_)
 refine False.elim ?_;rotate_left
 refine False.elim ?_;rotate_left
 subst hv;exact ⟨rfl,rfl⟩
 revert hv;refine by_cond2 (fun hb hv=>?_) (fun hb hv=>?_)
 refine ⟨⟨?_⟩, ?_⟩;rotate_left
 revert hv;refine by_cond2 (fun hb hv=>?_) (fun hb hv=>?_)
 revert hv;refine by_cond2 (fun hb hv=>?_) (fun hb hv=>?_)
 refine False.elim ?_;rotate_left
 refine False.elim ?_;rotate_left
 revert hv;refine by_cond2 (fun hb hv=>?_) (fun hb hv=>?_)
 refine False.elim ?_;rotate_left
 refine False.elim ?_;rotate_left
 subst hv;exact ⟨rfl,rfl⟩
 subst hv;exact ⟨rfl,rfl⟩
 refine ⟨⟨o2_ok _⟩, ?_⟩
 iterate 5 refine ⟨⟨o3_ok _⟩, ?_⟩
 refine ⟨⟨o2_ok _⟩, ?_⟩
 revert hv;refine by_cond2 (fun hb hv=>?_) (fun hb hv=>?_)
 revert hv;refine by_cond2 (fun hb hv=>?_) (fun hb hv=>?_)
 subst hv;exact ⟨rfl,rfl⟩
 subst hv;exact ⟨rfl,rfl⟩
 intro hlen
 revert hv;refine by_cond2 (fun hb hv=>?_) (fun hb hv=>?_)
 refine ⟨⟨?_⟩, ?_⟩;rotate_left
 revert hv;refine by_cond2 (fun hb hv=>?_) (fun hb hv=>?_)
 revert hv;refine by_cond2 (fun hb hv=>?_) (fun hb hv=>?_)
 revert hv;refine by_cond2 (fun hb hv=>?_) (fun hb hv=>?_)
 refine ⟨⟨?_⟩, ?_⟩;rotate_left
 revert hv;refine by_cond2 (fun hb hv=>?_) (fun hb hv=>?_)
 revert hv;refine by_cond2 (fun hb hv=>?_) (fun hb hv=>?_)
 refine False.elim ?_;rotate_left
 refine False.elim ?_;rotate_left
 revert hv;refine by_cond2 (fun hb hv=>?_) (fun hb hv=>?_)
 refine False.elim ?_;rotate_left
 refine False.elim ?_;rotate_left
 subst hv;exact ⟨rfl,rfl⟩
 revert hv;refine by_cond2 (fun hb hv=>?_) (fun hb hv=>?_)
 refine ⟨⟨?_⟩, ?_⟩;rotate_left
 revert hv;refine by_cond2 (fun hb hv=>?_) (fun hb hv=>?_)
 revert hv;refine by_cond2 (fun hb hv=>?_) (fun hb hv=>?_)
 refine False.elim ?_;rotate_left
 refine False.elim ?_;rotate_left
 revert hv;refine by_cond2 (fun hb hv=>?_) (fun hb hv=>?_)
 refine False.elim ?_;rotate_left
 refine False.elim ?_;rotate_left
 subst hv;exact ⟨rfl,rfl⟩
 revert hv;refine by_cond2 (fun hb hv=>?_) (fun hb hv=>?_)
 revert hv;refine by_cond2 (fun hb hv=>?_) (fun hb hv=>?_)
 refine ⟨⟨?_⟩, ?_⟩;rotate_left
 revert hv;refine by_cond2 (fun hb hv=>?_) (fun hb hv=>?_)
 revert hv;refine by_cond2 (fun hb hv=>?_) (fun hb hv=>?_)
 refine False.elim ?_;rotate_left
 refine False.elim ?_;rotate_left
 revert hv;refine by_cond2 (fun hb hv=>?_) (fun hb hv=>?_)
 refine False.elim ?_;rotate_left
 refine False.elim ?_;rotate_left
 subst hv;exact ⟨rfl,rfl⟩
 revert hv;refine by_cond2 (fun hb hv=>?_) (fun hb hv=>?_)
 refine ⟨⟨?_⟩, ?_⟩;rotate_left
 revert hv;refine by_cond2 (fun hb hv=>?_) (fun hb hv=>?_)
 revert hv;refine by_cond2 (fun hb hv=>?_) (fun hb hv=>?_)
 refine False.elim ?_;rotate_left
 refine False.elim ?_;rotate_left
 revert hv;refine by_cond2 (fun hb hv=>?_) (fun hb hv=>?_)
 refine False.elim ?_;rotate_left
 refine False.elim ?_;rotate_left
 subst hv;exact ⟨rfl,rfl⟩
 subst hv;exact ⟨rfl,rfl⟩
 all_goals first | ((try clear hv);(try clear q1 q2);(try clear hk);(exfalso;have hw:IntKind.wrap IntKind.i64 ((0:Int)+ (1:Int))= 1:=(by decide);have hq:=insDue_le s.Pending event (by omega);simp only [hw,decide_eq_true_eq,decide_eq_false_iff_not] at * <;> omega);done)| (first | ((try clear hv);(try clear q1 q2);(try clear hk);(first | omega | ((try simp only [decide_eq_true_eq,decide_eq_false_iff_not,Bool.not_eq_true,Bool.not_eq_false,Bool.and_eq_true,Bool.or_eq_true,Bool.not_not,cond_and,cond_or,List.length_append,List.length_cons,List.length_nil] at *);(first | done | (have:=wi64s ((0:Int)+ (1:Int));(omega)))));done)| ((try clear hv);(try clear q1 q2);(try clear hk);(first | omega | (decide +kernel)| ((try simp only [decide_eq_true_eq,decide_eq_false_iff_not,Bool.not_eq_true,Bool.not_eq_false,Bool.and_eq_true,Bool.or_eq_true,Bool.not_not,cond_and,cond_or,List.length_append,List.length_cons,List.length_nil] at *);(first | done | (omega))));done))
def procDue.ct:Ct El:=ctOf procDue.dec (fun x=>[x.1.Waiting.length≤1000∧x.1.Pending.length≤1]) (fun x=>procDue.res (procDue x.1 x.2)) (fun x=>procDue.news (procDue x.1 x.2))
theorem procDue.ok:CtOk (mkCx Tryz.prog S [] 0) 22 procDue.ct:=ct_mk (C:=(mkCxN Tryz.prog S tab_insDue 2 [])) (mkCxN_ok sigOk mixed tab_insDue_ok 2 []) procDue.dec_ok (fun x=>rfl) 6 (fun x hp=>(procDue.nf_ok x.1 x.2 _).mpr (procDue.key x.1 x.2 (hp _ (List.mem_singleton.2 rfl)) _ rfl))
def tab_procDue:List (FuncId×Ct El):= (22,procDue.ct):: tab_insDue
theorem tab_procDue_ok:TabOk Tryz.prog S tab_procDue:=⟨procDue.ok,by kernel_rfl,tab_insDue_ok⟩
end Go.Aw.W
