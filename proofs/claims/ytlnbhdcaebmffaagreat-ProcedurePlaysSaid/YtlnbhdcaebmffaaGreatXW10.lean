/- Contracts of the seat (printed by ct.py). -/
import Derived.Test.YtlnbhdcaebmffaaGreatXW9
set_option linter.unusedVariables false
set_option linter.unusedSimpArgs false
set_option maxRecDepth 20000
set_option maxHeartbeats 1000000
namespace Go.Aw.W
open Go Go.Aw Go.Proofs
attribute [local irreducible] evCode evFun evOps evDs evOne ctxK loopK loopB subC bodyC headS okH roundK
attribute [local irreducible] cCheck loopL
def rHandle:FuncId→Option (RL El):= fun f=>bif Nat.beq f 69 || Nat.beq f 70 || Nat.beq f 71 || Nat.beq f 72 || Nat.beq f 73 || Nat.beq f 74 || Nat.beq f 75 || Nat.beq f 76 || Nat.beq f 77 || Nat.beq f 78 || Nat.beq f 79 || Nat.beq f 80 || Nat.beq f 81 then some (fun _ _ _=>False) else none
def procHandleK0.res (r:Procs×(List Control)×(List Indication)): AV El:=.tup [Procs.av (r.1), .sl 37 (r.2.1:List (El 37)) false, .sl 57 (r.2.2:List (El 57)) false]
def procHandleK0.news (r:Procs×(List Control)×(List Indication)): List (AObj El):= []
def procHandleK0.L (e v:Procs×(List Control)×(List Indication)): Prop:=procHandleK0.res e=procHandleK0.res v∧procHandleK0.news e=procHandleK0.news v
def procHandleK0 (s:Procs) (c:Control) (event:Int) (now:Int): Procs×(List Control)×(List Indication):= cond (s.Ended != 0) ((s,[],[])) (cond (s.Role != 1) ((s,[],[])) (cond ((insAdd s.Pending event (pChange {Kind:=0,Update:=c.Update,Map:=c.Map,Instant:=c.Instant,Reason:=c.Reason,Rejected:=c.Rejected,Salt:=c.Salt,Mark:=c.Mark,Features:=c.Features,Version:=c.Version,Length:=c.Length:Control})).snd==0) (cond (bif (0:Int)== (0:Int) then s.Own==15 else false) ((({s with Own:=(-1),Other:=0,OtherTime:=now,Pending:=(insAdd s.Pending event (pChange {Kind:=0,Update:=c.Update,Map:=c.Map,Instant:=c.Instant,Reason:=c.Reason,Rejected:=c.Rejected,Salt:=c.Salt,Mark:=c.Mark,Features:=c.Features,Version:=c.Version,Length:=c.Length:Control})).fst}: Procs),[],[])) ((({s with Other:=0,OtherTime:=now,Pending:=(insAdd s.Pending event (pChange {Kind:=0,Update:=c.Update,Map:=c.Map,Instant:=c.Instant,Reason:=c.Reason,Rejected:=c.Rejected,Salt:=c.Salt,Mark:=c.Mark,Features:=c.Features,Version:=c.Version,Length:=c.Length:Control})).fst}: Procs),[],[]))) (cond ((insAdd s.Pending event (pChange {Kind:=0,Update:=c.Update,Map:=c.Map,Instant:=c.Instant,Reason:=c.Reason,Rejected:=c.Rejected,Salt:=c.Salt,Mark:=c.Mark,Features:=c.Features,Version:=c.Version,Length:=c.Length:Control})).snd==18) ((({s with Ended:=40}: Procs),[],[])) ((({s with Ended:=42}: Procs),[],[])))))
def procHandleK0.nf (s:Procs) (c:Control) (event:Int) (now:Int) (v:Procs×(List Control)×(List Indication)): Prop:=Ob (List.length s.Waiting*(120:Nat)≤(140737488355328:Nat))∧(Ob (List.length s.Pending*(64:Nat)≤(140737488355328:Nat))∧(cond (s.Ended != 0) (procHandleK0.L ((s,[],[])) v) (cond (s.Role != 1) (procHandleK0.L ((s,[],[])) v) (Ob (List.length s.Pending≤(1099511627776:Nat))∧(cond ((insAdd s.Pending event (pChange {Kind:=0,Update:=c.Update,Map:=c.Map,Instant:=c.Instant,Reason:=c.Reason,Rejected:=c.Rejected,Salt:=c.Salt,Mark:=c.Mark,Features:=c.Features,Version:=c.Version,Length:=c.Length:Control})).snd==0) (Ob (o3 (true))∧(Ob (o3 (true))∧(Ob (o3 (true))∧(Ob (o3 (true))∧(Ob (o3 (true))∧(Ob (o2 (true))∧(cond (bif (0:Int)== (0:Int) then s.Own==15 else false) (procHandleK0.L ((({s with Own:=(-1),Other:=0,OtherTime:=now,Pending:=(insAdd s.Pending event (pChange {Kind:=0,Update:=c.Update,Map:=c.Map,Instant:=c.Instant,Reason:=c.Reason,Rejected:=c.Rejected,Salt:=c.Salt,Mark:=c.Mark,Features:=c.Features,Version:=c.Version,Length:=c.Length:Control})).fst}: Procs),[],[])) v) (procHandleK0.L ((({s with Other:=0,OtherTime:=now,Pending:=(insAdd s.Pending event (pChange {Kind:=0,Update:=c.Update,Map:=c.Map,Instant:=c.Instant,Reason:=c.Reason,Rejected:=c.Rejected,Salt:=c.Salt,Mark:=c.Mark,Features:=c.Features,Version:=c.Version,Length:=c.Length:Control})).fst}: Procs),[],[])) v)))))))) (cond ((insAdd s.Pending event (pChange {Kind:=0,Update:=c.Update,Map:=c.Map,Instant:=c.Instant,Reason:=c.Reason,Rejected:=c.Rejected,Salt:=c.Salt,Mark:=c.Mark,Features:=c.Features,Version:=c.Version,Length:=c.Length:Control})).snd==18) (procHandleK0.L ((({s with Ended:=40}: Procs),[],[])) v) (procHandleK0.L ((({s with Ended:=42}: Procs),[],[])) v)))))))
theorem procHandleK0.nf_ok (s:Procs) (c:Control) (event:Int) (now:Int) (v:Procs×(List Control)×(List Indication)): evFun (mkCxQ Tryz.prog S tab_procStart 0 true true sum0 36 handlersQ) 6 10 [Procs.av s,Control.av ({c with Kind:=(0:Int)}: Control), .v (.int .u16 event), .v (.int .i64 now)] [] (fun r' H'=>Gives r' H' (procHandleK0.res v) (procHandleK0.news v))= procHandleK0.nf s c event now v:=by kernel_rfl
theorem procHandleK0.key (s:Procs) (c:Control) (event:Int) (now:Int) (hp:s.Waiting.length≤1000∧s.Pending.length≤1000) (v:Procs×(List Control)×(List Indication)) (hv:v=procHandleK0 s c event now): procHandleK0.nf s c event now v:=by
 unfold procHandleK0 at hv
 unfold procHandleK0.nf
 refine ⟨⟨?_⟩, ?_⟩;rotate_left
 refine ⟨⟨?_⟩, ?_⟩;rotate_left
 revert hv;refine by_cond2 (fun hb hv=>?_) (fun hb hv=>?_)
 subst hv;exact ⟨rfl,rfl⟩
 revert hv;refine by_cond2 (fun hb hv=>?_) (fun hb hv=>?_)
 subst hv;exact ⟨rfl,rfl⟩
 refine ⟨⟨?_⟩, ?_⟩;rotate_left
 revert hv;refine by_cond2 (fun hb hv=>?_) (fun hb hv=>?_)
 iterate 5 refine ⟨⟨o3_ok _⟩, ?_⟩
 refine ⟨⟨o2_ok _⟩, ?_⟩
 revert hv;refine by_cond2 (fun hb hv=>?_) (fun hb hv=>?_)
 subst hv;exact ⟨rfl,rfl⟩
 subst hv;exact ⟨rfl,rfl⟩
 revert hv;refine by_cond2 (fun hb hv=>?_) (fun hb hv=>?_)
 subst hv;exact ⟨rfl,rfl⟩
 subst hv;exact ⟨rfl,rfl⟩
 all_goals ((try clear hv);(try clear q1 q2);(try clear hk);(omega))
def procHandleK1.res (r:Procs×(List Control)×(List Indication)): AV El:=.tup [Procs.av (r.1), .sl 37 (r.2.1:List (El 37)) false, .sl 57 (r.2.2:List (El 57)) false]
def procHandleK1.news (r:Procs×(List Control)×(List Indication)): List (AObj El):= []
def procHandleK1.L (e v:Procs×(List Control)×(List Indication)): Prop:=procHandleK1.res e=procHandleK1.res v∧procHandleK1.news e=procHandleK1.news v
def procHandleK1 (s:Procs) (c:Control) (event:Int) (now:Int): Procs×(List Control)×(List Indication):= cond (s.Ended != 0) ((s,[],[])) (cond (s.Role != 1) ((s,[],[])) (cond ((insAdd s.Pending event (pChange {Kind:=1,Update:=c.Update,Map:=c.Map,Instant:=c.Instant,Reason:=c.Reason,Rejected:=c.Rejected,Salt:=c.Salt,Mark:=c.Mark,Features:=c.Features,Version:=c.Version,Length:=c.Length:Control})).snd==0) ((({s with Other:=1,OtherTime:=now,Pending:=(insAdd s.Pending event (pChange {Kind:=1,Update:=c.Update,Map:=c.Map,Instant:=c.Instant,Reason:=c.Reason,Rejected:=c.Rejected,Salt:=c.Salt,Mark:=c.Mark,Features:=c.Features,Version:=c.Version,Length:=c.Length:Control})).fst}: Procs),[],[])) (cond ((insAdd s.Pending event (pChange {Kind:=1,Update:=c.Update,Map:=c.Map,Instant:=c.Instant,Reason:=c.Reason,Rejected:=c.Rejected,Salt:=c.Salt,Mark:=c.Mark,Features:=c.Features,Version:=c.Version,Length:=c.Length:Control})).snd==18) ((({s with Ended:=40}: Procs),[],[])) ((({s with Ended:=42}: Procs),[],[])))))
def procHandleK1.nf (s:Procs) (c:Control) (event:Int) (now:Int) (v:Procs×(List Control)×(List Indication)): Prop:=Ob (List.length s.Waiting*(120:Nat)≤(140737488355328:Nat))∧(Ob (List.length s.Pending*(64:Nat)≤(140737488355328:Nat))∧(cond (s.Ended != 0) (procHandleK1.L ((s,[],[])) v) (cond (s.Role != 1) (procHandleK1.L ((s,[],[])) v) (Ob (List.length s.Pending≤(1099511627776:Nat))∧(cond ((insAdd s.Pending event (pChange {Kind:=1,Update:=c.Update,Map:=c.Map,Instant:=c.Instant,Reason:=c.Reason,Rejected:=c.Rejected,Salt:=c.Salt,Mark:=c.Mark,Features:=c.Features,Version:=c.Version,Length:=c.Length:Control})).snd==0) (Ob (o3 (false))∧(Ob (o3 (false))∧(Ob (o3 (false))∧(Ob (o3 (false))∧(Ob (o3 (false))∧(Ob (o2 (false))∧(procHandleK1.L ((({s with Other:=1,OtherTime:=now,Pending:=(insAdd s.Pending event (pChange {Kind:=1,Update:=c.Update,Map:=c.Map,Instant:=c.Instant,Reason:=c.Reason,Rejected:=c.Rejected,Salt:=c.Salt,Mark:=c.Mark,Features:=c.Features,Version:=c.Version,Length:=c.Length:Control})).fst}: Procs),[],[])) v))))))) (cond ((insAdd s.Pending event (pChange {Kind:=1,Update:=c.Update,Map:=c.Map,Instant:=c.Instant,Reason:=c.Reason,Rejected:=c.Rejected,Salt:=c.Salt,Mark:=c.Mark,Features:=c.Features,Version:=c.Version,Length:=c.Length:Control})).snd==18) (procHandleK1.L ((({s with Ended:=40}: Procs),[],[])) v) (procHandleK1.L ((({s with Ended:=42}: Procs),[],[])) v)))))))
theorem procHandleK1.nf_ok (s:Procs) (c:Control) (event:Int) (now:Int) (v:Procs×(List Control)×(List Indication)): evFun (mkCxQ Tryz.prog S tab_procStart 0 true true sum0 36 handlersQ) 6 10 [Procs.av s,Control.av ({c with Kind:=(1:Int)}: Control), .v (.int .u16 event), .v (.int .i64 now)] [] (fun r' H'=>Gives r' H' (procHandleK1.res v) (procHandleK1.news v))= procHandleK1.nf s c event now v:=by kernel_rfl
theorem procHandleK1.key (s:Procs) (c:Control) (event:Int) (now:Int) (hp:s.Waiting.length≤1000∧s.Pending.length≤1000) (v:Procs×(List Control)×(List Indication)) (hv:v=procHandleK1 s c event now): procHandleK1.nf s c event now v:=by
 unfold procHandleK1 at hv
 unfold procHandleK1.nf
 refine ⟨⟨?_⟩, ?_⟩;rotate_left
 refine ⟨⟨?_⟩, ?_⟩;rotate_left
 revert hv;refine by_cond2 (fun hb hv=>?_) (fun hb hv=>?_)
 subst hv;exact ⟨rfl,rfl⟩
 revert hv;refine by_cond2 (fun hb hv=>?_) (fun hb hv=>?_)
 subst hv;exact ⟨rfl,rfl⟩
 refine ⟨⟨?_⟩, ?_⟩;rotate_left
 revert hv;refine by_cond2 (fun hb hv=>?_) (fun hb hv=>?_)
 iterate 5 refine ⟨⟨o3_ok _⟩, ?_⟩
 refine ⟨⟨o2_ok _⟩, ?_⟩
 subst hv;exact ⟨rfl,rfl⟩
 revert hv;refine by_cond2 (fun hb hv=>?_) (fun hb hv=>?_)
 subst hv;exact ⟨rfl,rfl⟩
 subst hv;exact ⟨rfl,rfl⟩
 all_goals ((try clear hv);(try clear q1 q2);(try clear hk);(omega))
def procHandleK2.res (r:Procs×(List Control)×(List Indication)): AV El:=.tup [Procs.av (r.1), .sl 37 (r.2.1:List (El 37)) false, .sl 57 (r.2.2:List (El 57)) false]
def procHandleK2.news (r:Procs×(List Control)×(List Indication)): List (AObj El):= []
def procHandleK2.L (e v:Procs×(List Control)×(List Indication)): Prop:=procHandleK2.res e=procHandleK2.res v∧procHandleK2.news e=procHandleK2.news v
def procHandleK2 (s:Procs) (c:Control) (event:Int) (now:Int): Procs×(List Control)×(List Indication):= cond (s.Ended != (0:Int)) ((s,[],[])) (cond (c.Reason==(0:Int)) ((({s with Ended:=(19:Int)}: Procs),[],[])) ((({s with Ended:=c.Reason}: Procs),[],[])))
def procHandleK2.nf (s:Procs) (c:Control) (event:Int) (now:Int) (v:Procs×(List Control)×(List Indication)): Prop:=Ob (List.length s.Waiting*(120:Nat)≤(140737488355328:Nat))∧(Ob (List.length s.Pending*(64:Nat)≤(140737488355328:Nat))∧(cond (s.Ended != 0) (procHandleK2.L ((s,[],[])) v) (cond (c.Reason==0) (procHandleK2.L ((({s with Ended:=19}: Procs),[],[])) v) (procHandleK2.L ((({s with Ended:=c.Reason}: Procs),[],[])) v))))
theorem procHandleK2.nf_ok (s:Procs) (c:Control) (event:Int) (now:Int) (v:Procs×(List Control)×(List Indication)): evFun (mkCxQ Tryz.prog S tab_procStart 0 true true sum0 36 handlersQ) 6 10 [Procs.av s,Control.av ({c with Kind:=(2:Int)}: Control), .v (.int .u16 event), .v (.int .i64 now)] [] (fun r' H'=>Gives r' H' (procHandleK2.res v) (procHandleK2.news v))= procHandleK2.nf s c event now v:=by kernel_rfl
theorem procHandleK2.key (s:Procs) (c:Control) (event:Int) (now:Int) (hp:s.Waiting.length≤1000∧s.Pending.length≤1000) (v:Procs×(List Control)×(List Indication)) (hv:v=procHandleK2 s c event now): procHandleK2.nf s c event now v:=by
 unfold procHandleK2 at hv
 unfold procHandleK2.nf
 refine ⟨⟨?_⟩, ?_⟩;rotate_left
 refine ⟨⟨?_⟩, ?_⟩;rotate_left
 revert hv;refine by_cond2 (fun hb hv=>?_) (fun hb hv=>?_)
 subst hv;exact ⟨rfl,rfl⟩
 revert hv;refine by_cond2 (fun hb hv=>?_) (fun hb hv=>?_)
 subst hv;exact ⟨rfl,rfl⟩
 subst hv;exact ⟨rfl,rfl⟩
 all_goals ((try clear hv);(try clear q1 q2);(try clear hk);(omega))
def procHandleK3.res (r:Procs×(List Control)×(List Indication)): AV El:=.tup [Procs.av (r.1), .sl 37 (r.2.1:List (El 37)) false, .sl 57 (r.2.2:List (El 57)) false]
def procHandleK3.news (r:Procs×(List Control)×(List Indication)): List (AObj El):= []
def procHandleK3.L (e v:Procs×(List Control)×(List Indication)): Prop:=procHandleK3.res e=procHandleK3.res v∧procHandleK3.news e=procHandleK3.news v
def procHandleK3 (s:Procs) (c:Control) (event:Int) (now:Int): Procs×(List Control)×(List Indication):= cond (s.Ended != 0) ((s,[],[])) (cond (bif s.Role != 1 then true else s.Crypt != 0) ((s,[],[])) ((({s with Other:=3,OtherTime:=now,Peer:=c.Salt,Mark:=c.Mark,Crypt:=1}: Procs),[],[{Kind:=8,Event:=0,Packet:={LLID:=0,Payload:=[]: Packet},Change:={Kind:=0,Instant:=0,Update:={WinSize:=0,WinOffset:=0,Interval:=0,Latency:=0,Timeout:=0:Update},Map:=0:Change},Number:=c.Mark,Update:={WinSize:=0,WinOffset:=0,Interval:=0,Latency:=0,Timeout:=0:Update}: Indication}])))
def procHandleK3.nf (s:Procs) (c:Control) (event:Int) (now:Int) (v:Procs×(List Control)×(List Indication)): Prop:=Ob (List.length s.Waiting*(120:Nat)≤(140737488355328:Nat))∧(Ob (List.length s.Pending*(64:Nat)≤(140737488355328:Nat))∧(cond (s.Ended != 0) (procHandleK3.L ((s,[],[])) v) (Ob (o3 (!s.Role != 1))∧(Ob (o3 (!s.Role != 1))∧(Ob (o3 (!s.Role != 1))∧(Ob (o3 (!s.Role != 1))∧(Ob (o3 (!s.Role != 1))∧(Ob (on (s.Role != 1))∧(cond (bif s.Role != 1 then true else s.Crypt != 0) (procHandleK3.L ((s,[],[])) v) (Ob (List.length [{Kind:=8,Event:=0,Packet:={LLID:=0,Payload:=[]: Packet},Change:={Kind:=0,Instant:=0,Update:={WinSize:=0,WinOffset:=0,Interval:=0,Latency:=0,Timeout:=0:Update},Map:=0:Change},Number:=c.Mark,Update:={WinSize:=0,WinOffset:=0,Interval:=0,Latency:=0,Timeout:=0:Update}: Indication}]* (160:Nat)≤(140737488355328:Nat))∧(procHandleK3.L ((({s with Other:=3,OtherTime:=now,Peer:=c.Salt,Mark:=c.Mark,Crypt:=1}: Procs),[],[{Kind:=8,Event:=0,Packet:={LLID:=0,Payload:=[]: Packet},Change:={Kind:=0,Instant:=0,Update:={WinSize:=0,WinOffset:=0,Interval:=0,Latency:=0,Timeout:=0:Update},Map:=0:Change},Number:=c.Mark,Update:={WinSize:=0,WinOffset:=0,Interval:=0,Latency:=0,Timeout:=0:Update}: Indication}])) v)))))))))))
theorem procHandleK3.nf_ok (s:Procs) (c:Control) (event:Int) (now:Int) (v:Procs×(List Control)×(List Indication)): evFun (mkCxQ Tryz.prog S tab_procStart 0 true true sum0 36 handlersQ) 6 10 [Procs.av s,Control.av ({c with Kind:=(3:Int)}: Control), .v (.int .u16 event), .v (.int .i64 now)] [] (fun r' H'=>Gives r' H' (procHandleK3.res v) (procHandleK3.news v))= procHandleK3.nf s c event now v:=by kernel_rfl
theorem procHandleK3.key (s:Procs) (c:Control) (event:Int) (now:Int) (hp:s.Waiting.length≤1000∧s.Pending.length≤1000) (v:Procs×(List Control)×(List Indication)) (hv:v=procHandleK3 s c event now): procHandleK3.nf s c event now v:=by
 unfold procHandleK3 at hv
 unfold procHandleK3.nf
 refine ⟨⟨?_⟩, ?_⟩;rotate_left
 refine ⟨⟨?_⟩, ?_⟩;rotate_left
 revert hv;refine by_cond2 (fun hb hv=>?_) (fun hb hv=>?_)
 subst hv;exact ⟨rfl,rfl⟩
 iterate 5 refine ⟨⟨o3_ok _⟩, ?_⟩
 refine ⟨⟨on_ok _⟩, ?_⟩
 revert hv;refine by_cond2 (fun hb hv=>?_) (fun hb hv=>?_)
 subst hv;exact ⟨rfl,rfl⟩
 refine ⟨⟨?_⟩, ?_⟩;rotate_left
 subst hv;exact ⟨rfl,rfl⟩
 all_goals ((try clear hv);(try clear q1 q2);(try clear hk);(first | omega | ((try simp only [decide_eq_true_eq,decide_eq_false_iff_not,Bool.not_eq_true,Bool.not_eq_false,Bool.and_eq_true,Bool.or_eq_true,Bool.not_not,cond_and,cond_or,List.length_append,List.length_cons,List.length_nil] at *);(first | done | ((omega))))))
def procHandleK4.res (r:Procs×(List Control)×(List Indication)): AV El:=.tup [Procs.av (r.1), .sl 37 (r.2.1:List (El 37)) false, .sl 57 (r.2.2:List (El 57)) false]
def procHandleK4.news (r:Procs×(List Control)×(List Indication)): List (AObj El):= []
def procHandleK4.L (e v:Procs×(List Control)×(List Indication)): Prop:=procHandleK4.res e=procHandleK4.res v∧procHandleK4.news e=procHandleK4.news v
def procHandleK4 (s:Procs) (c:Control) (event:Int) (now:Int): Procs×(List Control)×(List Indication):= cond (s.Ended != 0) ((s,[],[])) (cond (bif s.Role != 1 then s.Crypt==1 else false) ((({s with Peer:=c.Salt,Crypt:=2}: Procs),[],[])) ((s,[],[])))
def procHandleK4.nf (s:Procs) (c:Control) (event:Int) (now:Int) (v:Procs×(List Control)×(List Indication)): Prop:=Ob (List.length s.Waiting*(120:Nat)≤(140737488355328:Nat))∧(Ob (List.length s.Pending*(64:Nat)≤(140737488355328:Nat))∧(cond (s.Ended != 0) (procHandleK4.L ((s,[],[])) v) (Ob (o3 (s.Role != 1))∧(Ob (o3 (s.Role != 1))∧(Ob (o3 (s.Role != 1))∧(Ob (o3 (s.Role != 1))∧(Ob (o3 (s.Role != 1))∧(Ob (o2 (s.Role != 1))∧(cond (bif s.Role != 1 then s.Crypt==1 else false) (procHandleK4.L ((({s with Peer:=c.Salt,Crypt:=2}: Procs),[],[])) v) (procHandleK4.L ((s,[],[])) v))))))))))
theorem procHandleK4.nf_ok (s:Procs) (c:Control) (event:Int) (now:Int) (v:Procs×(List Control)×(List Indication)): evFun (mkCxQ Tryz.prog S tab_procStart 0 true true sum0 36 handlersQ) 6 10 [Procs.av s,Control.av ({c with Kind:=(4:Int)}: Control), .v (.int .u16 event), .v (.int .i64 now)] [] (fun r' H'=>Gives r' H' (procHandleK4.res v) (procHandleK4.news v))= procHandleK4.nf s c event now v:=by kernel_rfl
theorem procHandleK4.key (s:Procs) (c:Control) (event:Int) (now:Int) (hp:s.Waiting.length≤1000∧s.Pending.length≤1000) (v:Procs×(List Control)×(List Indication)) (hv:v=procHandleK4 s c event now): procHandleK4.nf s c event now v:=by
 unfold procHandleK4 at hv
 unfold procHandleK4.nf
 refine ⟨⟨?_⟩, ?_⟩;rotate_left
 refine ⟨⟨?_⟩, ?_⟩;rotate_left
 revert hv;refine by_cond2 (fun hb hv=>?_) (fun hb hv=>?_)
 subst hv;exact ⟨rfl,rfl⟩
 iterate 5 refine ⟨⟨o3_ok _⟩, ?_⟩
 refine ⟨⟨o2_ok _⟩, ?_⟩
 revert hv;refine by_cond2 (fun hb hv=>?_) (fun hb hv=>?_)
 subst hv;exact ⟨rfl,rfl⟩
 subst hv;exact ⟨rfl,rfl⟩
 all_goals ((try clear hv);(try clear q1 q2);(try clear hk);(omega))
def procHandleK5.res (r:Procs×(List Control)×(List Indication)): AV El:=.tup [Procs.av (r.1), .sl 37 (r.2.1:List (El 37)) false, .sl 57 (r.2.2:List (El 57)) false]
def procHandleK5.news (r:Procs×(List Control)×(List Indication)): List (AObj El):= []
def procHandleK5.L (e v:Procs×(List Control)×(List Indication)): Prop:=procHandleK5.res e=procHandleK5.res v∧procHandleK5.news e=procHandleK5.news v
def procHandleK5 (s:Procs) (c:Control) (event:Int) (now:Int): Procs×(List Control)×(List Indication):= cond (s.Ended != 0) ((s,[],[])) (cond (bif s.Role != 1 then s.Crypt==2 else false) ((({s with Crypt:=3}: Procs),[]++ [{Kind:=6,Update:={WinSize:=0,WinOffset:=0,Interval:=0,Latency:=0,Timeout:=0:Update},Map:=0,Instant:=0,Reason:=0,Rejected:=0,Salt:=0,Mark:=0,Features:=0,Version:=0,Length:=0:Control}],[])) ((s,[],[])))
def procHandleK5.nf (s:Procs) (c:Control) (event:Int) (now:Int) (v:Procs×(List Control)×(List Indication)): Prop:=Ob (List.length s.Waiting*(120:Nat)≤(140737488355328:Nat))∧(Ob (List.length s.Pending*(64:Nat)≤(140737488355328:Nat))∧(cond (s.Ended != 0) (procHandleK5.L ((s,[],[])) v) (Ob (o3 (s.Role != 1))∧(Ob (o3 (s.Role != 1))∧(Ob (o3 (s.Role != 1))∧(Ob (o3 (s.Role != 1))∧(Ob (o3 (s.Role != 1))∧(Ob (o2 (s.Role != 1))∧(cond (bif s.Role != 1 then s.Crypt==2 else false) (Ob (((0:Nat)+ List.length [{Kind:=6,Update:={WinSize:=0,WinOffset:=0,Interval:=0,Latency:=0,Timeout:=0:Update},Map:=0,Instant:=0,Reason:=0,Rejected:=0,Salt:=0,Mark:=0,Features:=0,Version:=0,Length:=0:Control}])* (120:Nat)≤(140737488355328:Nat))∧(procHandleK5.L ((({s with Crypt:=3}: Procs),[]++ [{Kind:=6,Update:={WinSize:=0,WinOffset:=0,Interval:=0,Latency:=0,Timeout:=0:Update},Map:=0,Instant:=0,Reason:=0,Rejected:=0,Salt:=0,Mark:=0,Features:=0,Version:=0,Length:=0:Control}],[])) v)) (procHandleK5.L ((s,[],[])) v))))))))))
theorem procHandleK5.nf_ok (s:Procs) (c:Control) (event:Int) (now:Int) (v:Procs×(List Control)×(List Indication)): evFun (mkCxQ Tryz.prog S tab_procStart 0 true true sum0 36 handlersQ) 6 10 [Procs.av s,Control.av ({c with Kind:=(5:Int)}: Control), .v (.int .u16 event), .v (.int .i64 now)] [] (fun r' H'=>Gives r' H' (procHandleK5.res v) (procHandleK5.news v))= procHandleK5.nf s c event now v:=by kernel_rfl
theorem procHandleK5.key (s:Procs) (c:Control) (event:Int) (now:Int) (hp:s.Waiting.length≤1000∧s.Pending.length≤1000) (v:Procs×(List Control)×(List Indication)) (hv:v=procHandleK5 s c event now): procHandleK5.nf s c event now v:=by
 unfold procHandleK5 at hv
 unfold procHandleK5.nf
 refine ⟨⟨?_⟩, ?_⟩;rotate_left
 refine ⟨⟨?_⟩, ?_⟩;rotate_left
 revert hv;refine by_cond2 (fun hb hv=>?_) (fun hb hv=>?_)
 subst hv;exact ⟨rfl,rfl⟩
 iterate 5 refine ⟨⟨o3_ok _⟩, ?_⟩
 refine ⟨⟨o2_ok _⟩, ?_⟩
 revert hv;refine by_cond2 (fun hb hv=>?_) (fun hb hv=>?_)
 refine ⟨⟨?_⟩, ?_⟩;rotate_left
 subst hv;exact ⟨rfl,rfl⟩
 subst hv;exact ⟨rfl,rfl⟩
 all_goals ((try clear hv);(try clear q1 q2);(try clear hk);(first | omega | (decide +kernel)))
def procHandleK6.res (r:Procs×(List Control)×(List Indication)): AV El:=.tup [Procs.av (r.1), .sl 37 (r.2.1:List (El 37)) false, .sl 57 (r.2.2:List (El 57)) false]
def procHandleK6.news (r:Procs×(List Control)×(List Indication)): List (AObj El):= []
def procHandleK6.L (e v:Procs×(List Control)×(List Indication)): Prop:=procHandleK6.res e=procHandleK6.res v∧procHandleK6.news e=procHandleK6.news v
def procHandleK6 (s:Procs) (c:Control) (event:Int) (now:Int): Procs×(List Control)×(List Indication):= cond (s.Ended != 0) ((s,[],[])) (cond (s.Crypt != 3) ((s,[],[])) (cond (s.Role != 1) ((({s with Own:=(-1),Crypt:=4}: Procs),[],[{Kind:=3,Event:=0,Packet:={LLID:=0,Payload:=[]: Packet},Change:={Kind:=0,Instant:=0,Update:={WinSize:=0,WinOffset:=0,Interval:=0,Latency:=0,Timeout:=0:Update},Map:=0:Change},Number:=0,Update:={WinSize:=0,WinOffset:=0,Interval:=0,Latency:=0,Timeout:=0:Update}: Indication}])) ((({s with Other:=(-1),Crypt:=4}: Procs),[]++ [{Kind:=6,Update:={WinSize:=0,WinOffset:=0,Interval:=0,Latency:=0,Timeout:=0:Update},Map:=0,Instant:=0,Reason:=0,Rejected:=0,Salt:=0,Mark:=0,Features:=0,Version:=0,Length:=0:Control}],[{Kind:=3,Event:=0,Packet:={LLID:=0,Payload:=[]: Packet},Change:={Kind:=0,Instant:=0,Update:={WinSize:=0,WinOffset:=0,Interval:=0,Latency:=0,Timeout:=0:Update},Map:=0:Change},Number:=0,Update:={WinSize:=0,WinOffset:=0,Interval:=0,Latency:=0,Timeout:=0:Update}: Indication}]))))
def procHandleK6.nf (s:Procs) (c:Control) (event:Int) (now:Int) (v:Procs×(List Control)×(List Indication)): Prop:=Ob (List.length s.Waiting*(120:Nat)≤(140737488355328:Nat))∧(Ob (List.length s.Pending*(64:Nat)≤(140737488355328:Nat))∧(cond (s.Ended != 0) (procHandleK6.L ((s,[],[])) v) (cond (s.Crypt != 3) (procHandleK6.L ((s,[],[])) v) (Ob (List.length [{Kind:=3,Event:=0,Packet:={LLID:=0,Payload:=[]: Packet},Change:={Kind:=0,Instant:=0,Update:={WinSize:=0,WinOffset:=0,Interval:=0,Latency:=0,Timeout:=0:Update},Map:=0:Change},Number:=0,Update:={WinSize:=0,WinOffset:=0,Interval:=0,Latency:=0,Timeout:=0:Update}: Indication}]* (160:Nat)≤(140737488355328:Nat))∧(cond (s.Role != 1) (procHandleK6.L ((({s with Own:=(-1),Crypt:=4}: Procs),[],[{Kind:=3,Event:=0,Packet:={LLID:=0,Payload:=[]: Packet},Change:={Kind:=0,Instant:=0,Update:={WinSize:=0,WinOffset:=0,Interval:=0,Latency:=0,Timeout:=0:Update},Map:=0:Change},Number:=0,Update:={WinSize:=0,WinOffset:=0,Interval:=0,Latency:=0,Timeout:=0:Update}: Indication}])) v) (Ob (((0:Nat)+ List.length [{Kind:=6,Update:={WinSize:=0,WinOffset:=0,Interval:=0,Latency:=0,Timeout:=0:Update},Map:=0,Instant:=0,Reason:=0,Rejected:=0,Salt:=0,Mark:=0,Features:=0,Version:=0,Length:=0:Control}])* (120:Nat)≤(140737488355328:Nat))∧(procHandleK6.L ((({s with Other:=(-1),Crypt:=4}: Procs),[]++ [{Kind:=6,Update:={WinSize:=0,WinOffset:=0,Interval:=0,Latency:=0,Timeout:=0:Update},Map:=0,Instant:=0,Reason:=0,Rejected:=0,Salt:=0,Mark:=0,Features:=0,Version:=0,Length:=0:Control}],[{Kind:=3,Event:=0,Packet:={LLID:=0,Payload:=[]: Packet},Change:={Kind:=0,Instant:=0,Update:={WinSize:=0,WinOffset:=0,Interval:=0,Latency:=0,Timeout:=0:Update},Map:=0:Change},Number:=0,Update:={WinSize:=0,WinOffset:=0,Interval:=0,Latency:=0,Timeout:=0:Update}: Indication}])) v)))))))
theorem procHandleK6.nf_ok (s:Procs) (c:Control) (event:Int) (now:Int) (v:Procs×(List Control)×(List Indication)): evFun (mkCxQ Tryz.prog S tab_procStart 0 true true sum0 36 handlersQ) 6 10 [Procs.av s,Control.av ({c with Kind:=(6:Int)}: Control), .v (.int .u16 event), .v (.int .i64 now)] [] (fun r' H'=>Gives r' H' (procHandleK6.res v) (procHandleK6.news v))= procHandleK6.nf s c event now v:=by kernel_rfl
theorem procHandleK6.key (s:Procs) (c:Control) (event:Int) (now:Int) (hp:s.Waiting.length≤1000∧s.Pending.length≤1000) (v:Procs×(List Control)×(List Indication)) (hv:v=procHandleK6 s c event now): procHandleK6.nf s c event now v:=by
 unfold procHandleK6 at hv
 unfold procHandleK6.nf
 refine ⟨⟨?_⟩, ?_⟩;rotate_left
 refine ⟨⟨?_⟩, ?_⟩;rotate_left
 revert hv;refine by_cond2 (fun hb hv=>?_) (fun hb hv=>?_)
 subst hv;exact ⟨rfl,rfl⟩
 revert hv;refine by_cond2 (fun hb hv=>?_) (fun hb hv=>?_)
 subst hv;exact ⟨rfl,rfl⟩
 refine ⟨⟨?_⟩, ?_⟩;rotate_left
 revert hv;refine by_cond2 (fun hb hv=>?_) (fun hb hv=>?_)
 subst hv;exact ⟨rfl,rfl⟩
 refine ⟨⟨?_⟩, ?_⟩;rotate_left
 subst hv;exact ⟨rfl,rfl⟩
 all_goals ((try clear hv);(try clear q1 q2);(try clear hk);(first | omega | (decide +kernel)))
def procHandleK7.res (r:Procs×(List Control)×(List Indication)): AV El:=.tup [Procs.av (r.1), .sl 37 (r.2.1:List (El 37)) false, .sl 57 (r.2.2:List (El 57)) false]
def procHandleK7.news (r:Procs×(List Control)×(List Indication)): List (AObj El):= []
def procHandleK7.L (e v:Procs×(List Control)×(List Indication)): Prop:=procHandleK7.res e=procHandleK7.res v∧procHandleK7.news e=procHandleK7.news v
def procHandleK7 (s:Procs) (c:Control) (event:Int) (now:Int): Procs×(List Control)×(List Indication):= cond (s.Ended != 0) ((s,[],[])) (cond (bif bif bif s.Own != c.Rejected then true else pChanges s.Own then true else s.Own==2 then true else s.Own==(-1)) ((s,[],[])) (cond (s.Own==3) ((({s with Own:=(-1),Crypt:=0}: Procs),[],[{Kind:=9,Event:=0,Packet:={LLID:=0,Payload:=[]: Packet},Change:={Kind:=0,Instant:=0,Update:={WinSize:=0,WinOffset:=0,Interval:=0,Latency:=0,Timeout:=0:Update},Map:=0:Change},Number:=IntKind.wrap IntKind.u64 c.Rejected,Update:={WinSize:=0,WinOffset:=0,Interval:=0,Latency:=0,Timeout:=0:Update}: Indication}])) ((({s with Own:=(-1)}: Procs),[],[{Kind:=9,Event:=0,Packet:={LLID:=0,Payload:=[]: Packet},Change:={Kind:=0,Instant:=0,Update:={WinSize:=0,WinOffset:=0,Interval:=0,Latency:=0,Timeout:=0:Update},Map:=0:Change},Number:=IntKind.wrap IntKind.u64 c.Rejected,Update:={WinSize:=0,WinOffset:=0,Interval:=0,Latency:=0,Timeout:=0:Update}: Indication}]))))
def procHandleK7_nf_g1 (s:Procs) (c:Control): Bool:=bif (bif s.Own != c.Rejected then true else pChanges s.Own) then true else (s.Own==(2:Int))
def procHandleK7.nf (s:Procs) (c:Control) (event:Int) (now:Int) (v:Procs×(List Control)×(List Indication)): Prop:=Ob (List.length s.Waiting*(120:Nat)≤(140737488355328:Nat))∧(Ob (List.length s.Pending*(64:Nat)≤(140737488355328:Nat))∧(cond (s.Ended != 0) (procHandleK7.L ((s,[],[])) v) (Ob (o3 (!s.Own != c.Rejected))∧(Ob (o3 (!s.Own != c.Rejected))∧(Ob (o3 (!s.Own != c.Rejected))∧(Ob (o3 (!s.Own != c.Rejected))∧(Ob (o3 (!s.Own != c.Rejected))∧(Ob (on (s.Own != c.Rejected))∧(Ob (o3 (!bif s.Own != c.Rejected then true else pChanges s.Own))∧(Ob (o3 (!bif s.Own != c.Rejected then true else pChanges s.Own))∧(Ob (o3 (!bif s.Own != c.Rejected then true else pChanges s.Own))∧(Ob (o3 (!bif s.Own != c.Rejected then true else pChanges s.Own))∧(Ob (o3 (!bif s.Own != c.Rejected then true else pChanges s.Own))∧(Ob (on (bif s.Own != c.Rejected then true else pChanges s.Own))∧(Ob (o3 (!(procHandleK7_nf_g1 s c)))∧(Ob (o3 (!(procHandleK7_nf_g1 s c)))∧(Ob (o3 (!(procHandleK7_nf_g1 s c)))∧(Ob (o3 (!(procHandleK7_nf_g1 s c)))∧(Ob (o3 (!(procHandleK7_nf_g1 s c)))∧(Ob (on (procHandleK7_nf_g1 s c))∧(cond (bif bif bif s.Own != c.Rejected then true else pChanges s.Own then true else s.Own==2 then true else s.Own==(-1)) (procHandleK7.L ((s,[],[])) v) (cond (s.Own==3) (Ob (List.length [{Kind:=9,Event:=0,Packet:={LLID:=0,Payload:=[]: Packet},Change:={Kind:=0,Instant:=0,Update:={WinSize:=0,WinOffset:=0,Interval:=0,Latency:=0,Timeout:=0:Update},Map:=0:Change},Number:=IntKind.wrap IntKind.u64 c.Rejected,Update:={WinSize:=0,WinOffset:=0,Interval:=0,Latency:=0,Timeout:=0:Update}: Indication}]* (160:Nat)≤(140737488355328:Nat))∧(procHandleK7.L ((({s with Own:=(-1),Crypt:=0}: Procs),[],[{Kind:=9,Event:=0,Packet:={LLID:=0,Payload:=[]: Packet},Change:={Kind:=0,Instant:=0,Update:={WinSize:=0,WinOffset:=0,Interval:=0,Latency:=0,Timeout:=0:Update},Map:=0:Change},Number:=IntKind.wrap IntKind.u64 c.Rejected,Update:={WinSize:=0,WinOffset:=0,Interval:=0,Latency:=0,Timeout:=0:Update}: Indication}])) v)) (Ob (List.length [{Kind:=9,Event:=0,Packet:={LLID:=0,Payload:=[]: Packet},Change:={Kind:=0,Instant:=0,Update:={WinSize:=0,WinOffset:=0,Interval:=0,Latency:=0,Timeout:=0:Update},Map:=0:Change},Number:=IntKind.wrap IntKind.u64 c.Rejected,Update:={WinSize:=0,WinOffset:=0,Interval:=0,Latency:=0,Timeout:=0:Update}: Indication}]* (160:Nat)≤(140737488355328:Nat))∧(procHandleK7.L ((({s with Own:=(-1)}: Procs),[],[{Kind:=9,Event:=0,Packet:={LLID:=0,Payload:=[]: Packet},Change:={Kind:=0,Instant:=0,Update:={WinSize:=0,WinOffset:=0,Interval:=0,Latency:=0,Timeout:=0:Update},Map:=0:Change},Number:=IntKind.wrap IntKind.u64 c.Rejected,Update:={WinSize:=0,WinOffset:=0,Interval:=0,Latency:=0,Timeout:=0:Update}: Indication}])) v))))))))))))))))))))))))
theorem procHandleK7.nf_ok (s:Procs) (c:Control) (event:Int) (now:Int) (v:Procs×(List Control)×(List Indication)): evFun (mkCxQ Tryz.prog S tab_procStart 0 true true sum0 36 handlersQ) 6 10 [Procs.av s,Control.av ({c with Kind:=(7:Int)}: Control), .v (.int .u16 event), .v (.int .i64 now)] [] (fun r' H'=>Gives r' H' (procHandleK7.res v) (procHandleK7.news v))= procHandleK7.nf s c event now v:=by kernel_rfl
theorem procHandleK7.key (s:Procs) (c:Control) (event:Int) (now:Int) (hp:s.Waiting.length≤1000∧s.Pending.length≤1000) (v:Procs×(List Control)×(List Indication)) (hv:v=procHandleK7 s c event now): procHandleK7.nf s c event now v:=by
 unfold procHandleK7 at hv
 unfold procHandleK7.nf
 refine ⟨⟨?_⟩, ?_⟩;rotate_left
 refine ⟨⟨?_⟩, ?_⟩;rotate_left
 revert hv;refine by_cond2 (fun hb hv=>?_) (fun hb hv=>?_)
 subst hv;exact ⟨rfl,rfl⟩
 iterate 5 refine ⟨⟨o3_ok _⟩, ?_⟩
 refine ⟨⟨on_ok _⟩, ?_⟩
 iterate 5 refine ⟨⟨o3_ok _⟩, ?_⟩
 refine ⟨⟨on_ok _⟩, ?_⟩
 iterate 5 refine ⟨⟨o3_ok _⟩, ?_⟩
 refine ⟨⟨on_ok _⟩, ?_⟩
 revert hv;refine by_cond2 (fun hb hv=>?_) (fun hb hv=>?_)
 subst hv;exact ⟨rfl,rfl⟩
 revert hv;refine by_cond2 (fun hb hv=>?_) (fun hb hv=>?_)
 refine ⟨⟨?_⟩, ?_⟩;rotate_left
 subst hv;exact ⟨rfl,rfl⟩
 refine ⟨⟨?_⟩, ?_⟩;rotate_left
 subst hv;exact ⟨rfl,rfl⟩
 all_goals (first | ((try clear hv);(try clear q1 q2);(try clear hk);(first | omega | ((try simp only [decide_eq_true_eq,decide_eq_false_iff_not,Bool.not_eq_true,Bool.not_eq_false,Bool.and_eq_true,Bool.or_eq_true,Bool.not_not,cond_and,cond_or,List.length_append,List.length_cons,List.length_nil] at *);(first | done | ((omega)))));done)| ((try clear hv);(try clear q1 q2);(try clear hk);(first | omega | (decide +kernel)| ((try simp only [decide_eq_true_eq,decide_eq_false_iff_not,Bool.not_eq_true,Bool.not_eq_false,Bool.and_eq_true,Bool.or_eq_true,Bool.not_not,cond_and,cond_or,List.length_append,List.length_cons,List.length_nil] at *);(first | done | (have:=wu64s c.Rejected;omega))));done))
def procHandleK8.res (r:Procs×(List Control)×(List Indication)): AV El:=.tup [Procs.av (r.1), .sl 37 (r.2.1:List (El 37)) false, .sl 57 (r.2.2:List (El 57)) false]
def procHandleK8.news (r:Procs×(List Control)×(List Indication)): List (AObj El):= []
def procHandleK8.L (e v:Procs×(List Control)×(List Indication)): Prop:=procHandleK8.res e=procHandleK8.res v∧procHandleK8.news e=procHandleK8.news v
def procHandleK8 (s:Procs) (c:Control) (event:Int) (now:Int): Procs×(List Control)×(List Indication):= cond (s.Ended != 0) ((s,[],[])) ((({s with Common:=bandK IntKind.u64 s.Features c.Features,Known:=true}: Procs),[]++ [{Kind:=9,Update:={WinSize:=0,WinOffset:=0,Interval:=0,Latency:=0,Timeout:=0:Update},Map:=0,Instant:=0,Reason:=0,Rejected:=0,Salt:=0,Mark:=0,Features:=s.Features,Version:=0,Length:=0:Control}],[{Kind:=5,Event:=0,Packet:={LLID:=0,Payload:=[]: Packet},Change:={Kind:=0,Instant:=0,Update:={WinSize:=0,WinOffset:=0,Interval:=0,Latency:=0,Timeout:=0:Update},Map:=0:Change},Number:=bandK IntKind.u64 s.Features c.Features,Update:={WinSize:=0,WinOffset:=0,Interval:=0,Latency:=0,Timeout:=0:Update}: Indication}]))
def procHandleK8.nf (s:Procs) (c:Control) (event:Int) (now:Int) (v:Procs×(List Control)×(List Indication)): Prop:=Ob (List.length s.Waiting*(120:Nat)≤(140737488355328:Nat))∧(Ob (List.length s.Pending*(64:Nat)≤(140737488355328:Nat))∧(cond (s.Ended != 0) (procHandleK8.L ((s,[],[])) v) (Ob (o3 (false))∧(Ob (o3 (false))∧(Ob (o3 (false))∧(Ob (o3 (false))∧(Ob (o3 (false))∧(Ob (o2 (false))∧(Ob (List.length [{Kind:=5,Event:=0,Packet:={LLID:=0,Payload:=[]: Packet},Change:={Kind:=0,Instant:=0,Update:={WinSize:=0,WinOffset:=0,Interval:=0,Latency:=0,Timeout:=0:Update},Map:=0:Change},Number:=bandK IntKind.u64 s.Features c.Features,Update:={WinSize:=0,WinOffset:=0,Interval:=0,Latency:=0,Timeout:=0:Update}: Indication}]* (160:Nat)≤(140737488355328:Nat))∧(Ob (((0:Nat)+ List.length [{Kind:=9,Update:={WinSize:=0,WinOffset:=0,Interval:=0,Latency:=0,Timeout:=0:Update},Map:=0,Instant:=0,Reason:=0,Rejected:=0,Salt:=0,Mark:=0,Features:=s.Features,Version:=0,Length:=0:Control}])* (120:Nat)≤(140737488355328:Nat))∧(procHandleK8.L ((({s with Common:=bandK IntKind.u64 s.Features c.Features,Known:=true}: Procs),[]++ [{Kind:=9,Update:={WinSize:=0,WinOffset:=0,Interval:=0,Latency:=0,Timeout:=0:Update},Map:=0,Instant:=0,Reason:=0,Rejected:=0,Salt:=0,Mark:=0,Features:=s.Features,Version:=0,Length:=0:Control}],[{Kind:=5,Event:=0,Packet:={LLID:=0,Payload:=[]: Packet},Change:={Kind:=0,Instant:=0,Update:={WinSize:=0,WinOffset:=0,Interval:=0,Latency:=0,Timeout:=0:Update},Map:=0:Change},Number:=bandK IntKind.u64 s.Features c.Features,Update:={WinSize:=0,WinOffset:=0,Interval:=0,Latency:=0,Timeout:=0:Update}: Indication}])) v)))))))))))
theorem procHandleK8.nf_ok (s:Procs) (c:Control) (event:Int) (now:Int) (v:Procs×(List Control)×(List Indication)): evFun (mkCxQ Tryz.prog S tab_procStart 0 true true sum0 36 handlersQ) 6 10 [Procs.av s,Control.av ({c with Kind:=(8:Int)}: Control), .v (.int .u16 event), .v (.int .i64 now)] [] (fun r' H'=>Gives r' H' (procHandleK8.res v) (procHandleK8.news v))= procHandleK8.nf s c event now v:=by kernel_rfl
theorem procHandleK8.key (s:Procs) (c:Control) (event:Int) (now:Int) (hp:s.Waiting.length≤1000∧s.Pending.length≤1000) (v:Procs×(List Control)×(List Indication)) (hv:v=procHandleK8 s c event now): procHandleK8.nf s c event now v:=by
 unfold procHandleK8 at hv
 unfold procHandleK8.nf
 refine ⟨⟨?_⟩, ?_⟩;rotate_left
 refine ⟨⟨?_⟩, ?_⟩;rotate_left
 revert hv;refine by_cond2 (fun hb hv=>?_) (fun hb hv=>?_)
 subst hv;exact ⟨rfl,rfl⟩
 iterate 5 refine ⟨⟨o3_ok _⟩, ?_⟩
 refine ⟨⟨o2_ok _⟩, ?_⟩
 refine ⟨⟨?_⟩, ?_⟩;rotate_left
 refine ⟨⟨?_⟩, ?_⟩;rotate_left
 subst hv;exact ⟨rfl,rfl⟩
 all_goals ((try clear hv);(try clear q1 q2);(try clear hk);(first | omega | ((try simp only [decide_eq_true_eq,decide_eq_false_iff_not,Bool.not_eq_true,Bool.not_eq_false,Bool.and_eq_true,Bool.or_eq_true,Bool.not_not,cond_and,cond_or,List.length_append,List.length_cons,List.length_nil] at *);(first | done | ((omega))))))
def procHandleK9.res (r:Procs×(List Control)×(List Indication)): AV El:=.tup [Procs.av (r.1), .sl 37 (r.2.1:List (El 37)) false, .sl 57 (r.2.2:List (El 57)) false]
def procHandleK9.news (r:Procs×(List Control)×(List Indication)): List (AObj El):= []
def procHandleK9.L (e v:Procs×(List Control)×(List Indication)): Prop:=procHandleK9.res e=procHandleK9.res v∧procHandleK9.news e=procHandleK9.news v
def procHandleK9 (s:Procs) (c:Control) (event:Int) (now:Int): Procs×(List Control)×(List Indication):= cond (s.Ended != 0) ((s,[],[])) (cond (bif (9:Int)== (9:Int) then s.Own != 8 else false) ((s,[],[])) ((({s with Own:=(-1),Common:=bandK IntKind.u64 s.Features c.Features,Known:=true}: Procs),[],[{Kind:=5,Event:=0,Packet:={LLID:=0,Payload:=[]: Packet},Change:={Kind:=0,Instant:=0,Update:={WinSize:=0,WinOffset:=0,Interval:=0,Latency:=0,Timeout:=0:Update},Map:=0:Change},Number:=bandK IntKind.u64 s.Features c.Features,Update:={WinSize:=0,WinOffset:=0,Interval:=0,Latency:=0,Timeout:=0:Update}: Indication}])))
def procHandleK9.nf (s:Procs) (c:Control) (event:Int) (now:Int) (v:Procs×(List Control)×(List Indication)): Prop:=Ob (List.length s.Waiting*(120:Nat)≤(140737488355328:Nat))∧(Ob (List.length s.Pending*(64:Nat)≤(140737488355328:Nat))∧(cond (s.Ended != 0) (procHandleK9.L ((s,[],[])) v) (Ob (o3 (true))∧(Ob (o3 (true))∧(Ob (o3 (true))∧(Ob (o3 (true))∧(Ob (o3 (true))∧(Ob (o2 (true))∧(cond (bif (9:Int)== (9:Int) then s.Own != 8 else false) (procHandleK9.L ((s,[],[])) v) (Ob (List.length [{Kind:=5,Event:=0,Packet:={LLID:=0,Payload:=[]: Packet},Change:={Kind:=0,Instant:=0,Update:={WinSize:=0,WinOffset:=0,Interval:=0,Latency:=0,Timeout:=0:Update},Map:=0:Change},Number:=bandK IntKind.u64 s.Features c.Features,Update:={WinSize:=0,WinOffset:=0,Interval:=0,Latency:=0,Timeout:=0:Update}: Indication}]* (160:Nat)≤(140737488355328:Nat))∧(procHandleK9.L ((({s with Own:=(-1),Common:=bandK IntKind.u64 s.Features c.Features,Known:=true}: Procs),[],[{Kind:=5,Event:=0,Packet:={LLID:=0,Payload:=[]: Packet},Change:={Kind:=0,Instant:=0,Update:={WinSize:=0,WinOffset:=0,Interval:=0,Latency:=0,Timeout:=0:Update},Map:=0:Change},Number:=bandK IntKind.u64 s.Features c.Features,Update:={WinSize:=0,WinOffset:=0,Interval:=0,Latency:=0,Timeout:=0:Update}: Indication}])) v)))))))))))
theorem procHandleK9.nf_ok (s:Procs) (c:Control) (event:Int) (now:Int) (v:Procs×(List Control)×(List Indication)): evFun (mkCxQ Tryz.prog S tab_procStart 0 true true sum0 36 handlersQ) 6 10 [Procs.av s,Control.av ({c with Kind:=(9:Int)}: Control), .v (.int .u16 event), .v (.int .i64 now)] [] (fun r' H'=>Gives r' H' (procHandleK9.res v) (procHandleK9.news v))= procHandleK9.nf s c event now v:=by kernel_rfl
theorem procHandleK9.key (s:Procs) (c:Control) (event:Int) (now:Int) (hp:s.Waiting.length≤1000∧s.Pending.length≤1000) (v:Procs×(List Control)×(List Indication)) (hv:v=procHandleK9 s c event now): procHandleK9.nf s c event now v:=by
 unfold procHandleK9 at hv
 unfold procHandleK9.nf
 refine ⟨⟨?_⟩, ?_⟩;rotate_left
 refine ⟨⟨?_⟩, ?_⟩;rotate_left
 revert hv;refine by_cond2 (fun hb hv=>?_) (fun hb hv=>?_)
 subst hv;exact ⟨rfl,rfl⟩
 iterate 5 refine ⟨⟨o3_ok _⟩, ?_⟩
 refine ⟨⟨o2_ok _⟩, ?_⟩
 revert hv;refine by_cond2 (fun hb hv=>?_) (fun hb hv=>?_)
 subst hv;exact ⟨rfl,rfl⟩
 refine ⟨⟨?_⟩, ?_⟩;rotate_left
 subst hv;exact ⟨rfl,rfl⟩
 all_goals ((try clear hv);(try clear q1 q2);(try clear hk);(first | omega | ((try simp only [decide_eq_true_eq,decide_eq_false_iff_not,Bool.not_eq_true,Bool.not_eq_false,Bool.and_eq_true,Bool.or_eq_true,Bool.not_not,cond_and,cond_or,List.length_append,List.length_cons,List.length_nil] at *);(first | done | ((omega))))))
def procHandleK12.res (r:Procs×(List Control)×(List Indication)): AV El:=.tup [Procs.av (r.1), .sl 37 (r.2.1:List (El 37)) false, .sl 57 (r.2.2:List (El 57)) false]
def procHandleK12.news (r:Procs×(List Control)×(List Indication)): List (AObj El):= []
def procHandleK12.L (e v:Procs×(List Control)×(List Indication)): Prop:=procHandleK12.res e=procHandleK12.res v∧procHandleK12.news e=procHandleK12.news v
def procHandleK12 (s:Procs) (c:Control) (event:Int) (now:Int): Procs×(List Control)×(List Indication):= cond (s.Ended != 0) ((s,[],[])) (cond (s.Own==12) ((({s with Own:=(-1),Version:=c.Version}: Procs),[],[{Kind:=6,Event:=0,Packet:={LLID:=0,Payload:=[]: Packet},Change:={Kind:=0,Instant:=0,Update:={WinSize:=0,WinOffset:=0,Interval:=0,Latency:=0,Timeout:=0:Update},Map:=0:Change},Number:=IntKind.wrap IntKind.u64 c.Version,Update:={WinSize:=0,WinOffset:=0,Interval:=0,Latency:=0,Timeout:=0:Update}: Indication}])) (cond (!s.VersionTx) ((({s with VersionTx:=true,Version:=c.Version}: Procs),[]++ [{Kind:=12,Update:={WinSize:=0,WinOffset:=0,Interval:=0,Latency:=0,Timeout:=0:Update},Map:=0,Instant:=0,Reason:=0,Rejected:=0,Salt:=0,Mark:=0,Features:=0,Version:=11,Length:=0:Control}],[{Kind:=6,Event:=0,Packet:={LLID:=0,Payload:=[]: Packet},Change:={Kind:=0,Instant:=0,Update:={WinSize:=0,WinOffset:=0,Interval:=0,Latency:=0,Timeout:=0:Update},Map:=0:Change},Number:=IntKind.wrap IntKind.u64 c.Version,Update:={WinSize:=0,WinOffset:=0,Interval:=0,Latency:=0,Timeout:=0:Update}: Indication}])) ((({s with Version:=c.Version}: Procs),[],[{Kind:=6,Event:=0,Packet:={LLID:=0,Payload:=[]: Packet},Change:={Kind:=0,Instant:=0,Update:={WinSize:=0,WinOffset:=0,Interval:=0,Latency:=0,Timeout:=0:Update},Map:=0:Change},Number:=IntKind.wrap IntKind.u64 c.Version,Update:={WinSize:=0,WinOffset:=0,Interval:=0,Latency:=0,Timeout:=0:Update}: Indication}]))))
def procHandleK12.nf (s:Procs) (c:Control) (event:Int) (now:Int) (v:Procs×(List Control)×(List Indication)): Prop:=Ob (List.length s.Waiting*(120:Nat)≤(140737488355328:Nat))∧(Ob (List.length s.Pending*(64:Nat)≤(140737488355328:Nat))∧(cond (s.Ended != 0) (procHandleK12.L ((s,[],[])) v) (Ob (List.length [{Kind:=6,Event:=0,Packet:={LLID:=0,Payload:=[]: Packet},Change:={Kind:=0,Instant:=0,Update:={WinSize:=0,WinOffset:=0,Interval:=0,Latency:=0,Timeout:=0:Update},Map:=0:Change},Number:=IntKind.wrap IntKind.u64 c.Version,Update:={WinSize:=0,WinOffset:=0,Interval:=0,Latency:=0,Timeout:=0:Update}: Indication}]* (160:Nat)≤(140737488355328:Nat))∧(cond (s.Own==12) (procHandleK12.L ((({s with Own:=(-1),Version:=c.Version}: Procs),[],[{Kind:=6,Event:=0,Packet:={LLID:=0,Payload:=[]: Packet},Change:={Kind:=0,Instant:=0,Update:={WinSize:=0,WinOffset:=0,Interval:=0,Latency:=0,Timeout:=0:Update},Map:=0:Change},Number:=IntKind.wrap IntKind.u64 c.Version,Update:={WinSize:=0,WinOffset:=0,Interval:=0,Latency:=0,Timeout:=0:Update}: Indication}])) v) (cond (!s.VersionTx) (Ob (((0:Nat)+ List.length [{Kind:=12,Update:={WinSize:=0,WinOffset:=0,Interval:=0,Latency:=0,Timeout:=0:Update},Map:=0,Instant:=0,Reason:=0,Rejected:=0,Salt:=0,Mark:=0,Features:=0,Version:=11,Length:=0:Control}])* (120:Nat)≤(140737488355328:Nat))∧(procHandleK12.L ((({s with VersionTx:=true,Version:=c.Version}: Procs),[]++ [{Kind:=12,Update:={WinSize:=0,WinOffset:=0,Interval:=0,Latency:=0,Timeout:=0:Update},Map:=0,Instant:=0,Reason:=0,Rejected:=0,Salt:=0,Mark:=0,Features:=0,Version:=11,Length:=0:Control}],[{Kind:=6,Event:=0,Packet:={LLID:=0,Payload:=[]: Packet},Change:={Kind:=0,Instant:=0,Update:={WinSize:=0,WinOffset:=0,Interval:=0,Latency:=0,Timeout:=0:Update},Map:=0:Change},Number:=IntKind.wrap IntKind.u64 c.Version,Update:={WinSize:=0,WinOffset:=0,Interval:=0,Latency:=0,Timeout:=0:Update}: Indication}])) v)) (procHandleK12.L ((({s with Version:=c.Version}: Procs),[],[{Kind:=6,Event:=0,Packet:={LLID:=0,Payload:=[]: Packet},Change:={Kind:=0,Instant:=0,Update:={WinSize:=0,WinOffset:=0,Interval:=0,Latency:=0,Timeout:=0:Update},Map:=0:Change},Number:=IntKind.wrap IntKind.u64 c.Version,Update:={WinSize:=0,WinOffset:=0,Interval:=0,Latency:=0,Timeout:=0:Update}: Indication}])) v))))))
theorem procHandleK12.nf_ok (s:Procs) (c:Control) (event:Int) (now:Int) (v:Procs×(List Control)×(List Indication)): evFun (mkCxQ Tryz.prog S tab_procStart 0 true true sum0 36 handlersQ) 6 10 [Procs.av s,Control.av ({c with Kind:=(12:Int)}: Control), .v (.int .u16 event), .v (.int .i64 now)] [] (fun r' H'=>Gives r' H' (procHandleK12.res v) (procHandleK12.news v))= procHandleK12.nf s c event now v:=by kernel_rfl
theorem procHandleK12.key (s:Procs) (c:Control) (event:Int) (now:Int) (hp:s.Waiting.length≤1000∧s.Pending.length≤1000) (v:Procs×(List Control)×(List Indication)) (hv:v=procHandleK12 s c event now): procHandleK12.nf s c event now v:=by
 unfold procHandleK12 at hv
 unfold procHandleK12.nf
 refine ⟨⟨?_⟩, ?_⟩;rotate_left
 refine ⟨⟨?_⟩, ?_⟩;rotate_left
 revert hv;refine by_cond2 (fun hb hv=>?_) (fun hb hv=>?_)
 subst hv;exact ⟨rfl,rfl⟩
 refine ⟨⟨by (try clear hv);(try clear q1 q2);(try clear hk);(((try simp only [decide_eq_true_eq,decide_eq_false_iff_not,Bool.not_eq_true,Bool.not_eq_false,Bool.and_eq_true,Bool.or_eq_true,Bool.not_not,cond_and,cond_or,List.length_append,List.length_cons,List.length_nil] at *);(first | done | (have:=wu64s c.Version;(omega)))))⟩, ?_⟩
 revert hv;refine by_cond2 (fun hb hv=>?_) (fun hb hv=>?_)
 subst hv;exact ⟨rfl,rfl⟩
 revert hv;refine by_cond2 (fun hb hv=>?_) (fun hb hv=>?_)
 refine ⟨⟨?_⟩, ?_⟩;rotate_left
 subst hv;exact ⟨rfl,rfl⟩
 subst hv;exact ⟨rfl,rfl⟩
 all_goals ((try clear hv);(try clear q1 q2);(try clear hk);(first | omega | (decide +kernel)))
def procHandleK13.res (r:Procs×(List Control)×(List Indication)): AV El:=.tup [Procs.av (r.1), .sl 37 (r.2.1:List (El 37)) false, .sl 57 (r.2.2:List (El 57)) false]
def procHandleK13.news (r:Procs×(List Control)×(List Indication)): List (AObj El):= []
def procHandleK13.L (e v:Procs×(List Control)×(List Indication)): Prop:=procHandleK13.res e=procHandleK13.res v∧procHandleK13.news e=procHandleK13.news v
def procHandleK13 (s:Procs) (c:Control) (event:Int) (now:Int): Procs×(List Control)×(List Indication):= cond (s.Ended != 0) ((s,[],[])) (cond (bif bif bif s.Own != c.Rejected then true else pChanges s.Own then true else s.Own==2 then true else s.Own==(-1)) ((s,[],[])) (cond (s.Own==3) ((({s with Own:=(-1),Crypt:=0}: Procs),[],[{Kind:=9,Event:=0,Packet:={LLID:=0,Payload:=[]: Packet},Change:={Kind:=0,Instant:=0,Update:={WinSize:=0,WinOffset:=0,Interval:=0,Latency:=0,Timeout:=0:Update},Map:=0:Change},Number:=IntKind.wrap IntKind.u64 c.Rejected,Update:={WinSize:=0,WinOffset:=0,Interval:=0,Latency:=0,Timeout:=0:Update}: Indication}])) ((({s with Own:=(-1)}: Procs),[],[{Kind:=9,Event:=0,Packet:={LLID:=0,Payload:=[]: Packet},Change:={Kind:=0,Instant:=0,Update:={WinSize:=0,WinOffset:=0,Interval:=0,Latency:=0,Timeout:=0:Update},Map:=0:Change},Number:=IntKind.wrap IntKind.u64 c.Rejected,Update:={WinSize:=0,WinOffset:=0,Interval:=0,Latency:=0,Timeout:=0:Update}: Indication}]))))
def procHandleK13_nf_g1 (s:Procs) (c:Control): Bool:=bif (bif s.Own != c.Rejected then true else pChanges s.Own) then true else (s.Own==(2:Int))
def procHandleK13.nf (s:Procs) (c:Control) (event:Int) (now:Int) (v:Procs×(List Control)×(List Indication)): Prop:=Ob (List.length s.Waiting*(120:Nat)≤(140737488355328:Nat))∧(Ob (List.length s.Pending*(64:Nat)≤(140737488355328:Nat))∧(cond (s.Ended != 0) (procHandleK13.L ((s,[],[])) v) (Ob (o3 (!s.Own != c.Rejected))∧(Ob (o3 (!s.Own != c.Rejected))∧(Ob (o3 (!s.Own != c.Rejected))∧(Ob (o3 (!s.Own != c.Rejected))∧(Ob (o3 (!s.Own != c.Rejected))∧(Ob (on (s.Own != c.Rejected))∧(Ob (o3 (!bif s.Own != c.Rejected then true else pChanges s.Own))∧(Ob (o3 (!bif s.Own != c.Rejected then true else pChanges s.Own))∧(Ob (o3 (!bif s.Own != c.Rejected then true else pChanges s.Own))∧(Ob (o3 (!bif s.Own != c.Rejected then true else pChanges s.Own))∧(Ob (o3 (!bif s.Own != c.Rejected then true else pChanges s.Own))∧(Ob (on (bif s.Own != c.Rejected then true else pChanges s.Own))∧(Ob (o3 (!(procHandleK13_nf_g1 s c)))∧(Ob (o3 (!(procHandleK13_nf_g1 s c)))∧(Ob (o3 (!(procHandleK13_nf_g1 s c)))∧(Ob (o3 (!(procHandleK13_nf_g1 s c)))∧(Ob (o3 (!(procHandleK13_nf_g1 s c)))∧(Ob (on (procHandleK13_nf_g1 s c))∧(cond (bif bif bif s.Own != c.Rejected then true else pChanges s.Own then true else s.Own==2 then true else s.Own==(-1)) (procHandleK13.L ((s,[],[])) v) (cond (s.Own==3) (Ob (List.length [{Kind:=9,Event:=0,Packet:={LLID:=0,Payload:=[]: Packet},Change:={Kind:=0,Instant:=0,Update:={WinSize:=0,WinOffset:=0,Interval:=0,Latency:=0,Timeout:=0:Update},Map:=0:Change},Number:=IntKind.wrap IntKind.u64 c.Rejected,Update:={WinSize:=0,WinOffset:=0,Interval:=0,Latency:=0,Timeout:=0:Update}: Indication}]* (160:Nat)≤(140737488355328:Nat))∧(procHandleK13.L ((({s with Own:=(-1),Crypt:=0}: Procs),[],[{Kind:=9,Event:=0,Packet:={LLID:=0,Payload:=[]: Packet},Change:={Kind:=0,Instant:=0,Update:={WinSize:=0,WinOffset:=0,Interval:=0,Latency:=0,Timeout:=0:Update},Map:=0:Change},Number:=IntKind.wrap IntKind.u64 c.Rejected,Update:={WinSize:=0,WinOffset:=0,Interval:=0,Latency:=0,Timeout:=0:Update}: Indication}])) v)) (Ob (List.length [{Kind:=9,Event:=0,Packet:={LLID:=0,Payload:=[]: Packet},Change:={Kind:=0,Instant:=0,Update:={WinSize:=0,WinOffset:=0,Interval:=0,Latency:=0,Timeout:=0:Update},Map:=0:Change},Number:=IntKind.wrap IntKind.u64 c.Rejected,Update:={WinSize:=0,WinOffset:=0,Interval:=0,Latency:=0,Timeout:=0:Update}: Indication}]* (160:Nat)≤(140737488355328:Nat))∧(procHandleK13.L ((({s with Own:=(-1)}: Procs),[],[{Kind:=9,Event:=0,Packet:={LLID:=0,Payload:=[]: Packet},Change:={Kind:=0,Instant:=0,Update:={WinSize:=0,WinOffset:=0,Interval:=0,Latency:=0,Timeout:=0:Update},Map:=0:Change},Number:=IntKind.wrap IntKind.u64 c.Rejected,Update:={WinSize:=0,WinOffset:=0,Interval:=0,Latency:=0,Timeout:=0:Update}: Indication}])) v))))))))))))))))))))))))
theorem procHandleK13.nf_ok (s:Procs) (c:Control) (event:Int) (now:Int) (v:Procs×(List Control)×(List Indication)): evFun (mkCxQ Tryz.prog S tab_procStart 0 true true sum0 36 handlersQ) 6 10 [Procs.av s,Control.av ({c with Kind:=(13:Int)}: Control), .v (.int .u16 event), .v (.int .i64 now)] [] (fun r' H'=>Gives r' H' (procHandleK13.res v) (procHandleK13.news v))= procHandleK13.nf s c event now v:=by kernel_rfl
theorem procHandleK13.key (s:Procs) (c:Control) (event:Int) (now:Int) (hp:s.Waiting.length≤1000∧s.Pending.length≤1000) (v:Procs×(List Control)×(List Indication)) (hv:v=procHandleK13 s c event now): procHandleK13.nf s c event now v:=by
 unfold procHandleK13 at hv
 unfold procHandleK13.nf
 refine ⟨⟨?_⟩, ?_⟩;rotate_left
 refine ⟨⟨?_⟩, ?_⟩;rotate_left
 revert hv;refine by_cond2 (fun hb hv=>?_) (fun hb hv=>?_)
 subst hv;exact ⟨rfl,rfl⟩
 iterate 5 refine ⟨⟨o3_ok _⟩, ?_⟩
 refine ⟨⟨on_ok _⟩, ?_⟩
 iterate 5 refine ⟨⟨o3_ok _⟩, ?_⟩
 refine ⟨⟨on_ok _⟩, ?_⟩
 iterate 5 refine ⟨⟨o3_ok _⟩, ?_⟩
 refine ⟨⟨on_ok _⟩, ?_⟩
 revert hv;refine by_cond2 (fun hb hv=>?_) (fun hb hv=>?_)
 subst hv;exact ⟨rfl,rfl⟩
 revert hv;refine by_cond2 (fun hb hv=>?_) (fun hb hv=>?_)
 refine ⟨⟨?_⟩, ?_⟩;rotate_left
 subst hv;exact ⟨rfl,rfl⟩
 refine ⟨⟨?_⟩, ?_⟩;rotate_left
 subst hv;exact ⟨rfl,rfl⟩
 all_goals (first | ((try clear hv);(try clear q1 q2);(try clear hk);(first | omega | ((try simp only [decide_eq_true_eq,decide_eq_false_iff_not,Bool.not_eq_true,Bool.not_eq_false,Bool.and_eq_true,Bool.or_eq_true,Bool.not_not,cond_and,cond_or,List.length_append,List.length_cons,List.length_nil] at *);(first | done | ((omega)))));done)| ((try clear hv);(try clear q1 q2);(try clear hk);(first | omega | (decide +kernel)| ((try simp only [decide_eq_true_eq,decide_eq_false_iff_not,Bool.not_eq_true,Bool.not_eq_false,Bool.and_eq_true,Bool.or_eq_true,Bool.not_not,cond_and,cond_or,List.length_append,List.length_cons,List.length_nil] at *);(first | done | (have:=wu64s c.Rejected;omega))));done))
def procHandleK15.res (r:Procs×(List Control)×(List Indication)): AV El:=.tup [Procs.av (r.1), .sl 37 (r.2.1:List (El 37)) false, .sl 57 (r.2.2:List (El 57)) false]
def procHandleK15.news (r:Procs×(List Control)×(List Indication)): List (AObj El):= []
def procHandleK15.L (e v:Procs×(List Control)×(List Indication)): Prop:=procHandleK15.res e=procHandleK15.res v∧procHandleK15.news e=procHandleK15.news v
def procHandleK15 (s:Procs) (c:Control) (event:Int) (now:Int): Procs×(List Control)×(List Indication):= cond (s.Ended != 0) ((s,[],[])) (cond (!s.Role != 1) ((s,[],[])) (cond (pChanges s.Own) ((s,[]++ [{Kind:=13,Update:={WinSize:=0,WinOffset:=0,Interval:=0,Latency:=0,Timeout:=0:Update},Map:=0,Instant:=0,Reason:=42,Rejected:=15,Salt:=0,Mark:=0,Features:=0,Version:=0,Length:=0:Control}],[])) ((({s with Other:=15,OtherTime:=now}: Procs),[],[]++ [{Kind:=12,Event:=0,Packet:={LLID:=0,Payload:=[]: Packet},Change:={Kind:=0,Instant:=0,Update:={WinSize:=0,WinOffset:=0,Interval:=0,Latency:=0,Timeout:=0:Update},Map:=0:Change},Number:=0,Update:=c.Update:Indication}]))))
def procHandleK15.nf (s:Procs) (c:Control) (event:Int) (now:Int) (v:Procs×(List Control)×(List Indication)): Prop:=Ob (List.length s.Waiting*(120:Nat)≤(140737488355328:Nat))∧(Ob (List.length s.Pending*(64:Nat)≤(140737488355328:Nat))∧(cond (s.Ended != 0) (procHandleK15.L ((s,[],[])) v) (cond (!s.Role != 1) (procHandleK15.L ((s,[],[])) v) (cond (pChanges s.Own) (Ob (((0:Nat)+ List.length [{Kind:=13,Update:={WinSize:=0,WinOffset:=0,Interval:=0,Latency:=0,Timeout:=0:Update},Map:=0,Instant:=0,Reason:=42,Rejected:=15,Salt:=0,Mark:=0,Features:=0,Version:=0,Length:=0:Control}])* (120:Nat)≤(140737488355328:Nat))∧(procHandleK15.L ((s,[]++ [{Kind:=13,Update:={WinSize:=0,WinOffset:=0,Interval:=0,Latency:=0,Timeout:=0:Update},Map:=0,Instant:=0,Reason:=42,Rejected:=15,Salt:=0,Mark:=0,Features:=0,Version:=0,Length:=0:Control}],[])) v)) (Ob (((0:Nat)+ List.length [{Kind:=12,Event:=0,Packet:={LLID:=0,Payload:=[]: Packet},Change:={Kind:=0,Instant:=0,Update:={WinSize:=0,WinOffset:=0,Interval:=0,Latency:=0,Timeout:=0:Update},Map:=0:Change},Number:=0,Update:=c.Update:Indication}])* (160:Nat)≤(140737488355328:Nat))∧(procHandleK15.L ((({s with Other:=15,OtherTime:=now}: Procs),[],[]++ [{Kind:=12,Event:=0,Packet:={LLID:=0,Payload:=[]: Packet},Change:={Kind:=0,Instant:=0,Update:={WinSize:=0,WinOffset:=0,Interval:=0,Latency:=0,Timeout:=0:Update},Map:=0:Change},Number:=0,Update:=c.Update:Indication}])) v))))))
theorem procHandleK15.nf_ok (s:Procs) (c:Control) (event:Int) (now:Int) (v:Procs×(List Control)×(List Indication)): evFun (mkCxQ Tryz.prog S tab_procStart 0 true true sum0 36 handlersQ) 6 10 [Procs.av s,Control.av ({c with Kind:=(15:Int)}: Control), .v (.int .u16 event), .v (.int .i64 now)] [] (fun r' H'=>Gives r' H' (procHandleK15.res v) (procHandleK15.news v))= procHandleK15.nf s c event now v:=by kernel_rfl
theorem procHandleK15.key (s:Procs) (c:Control) (event:Int) (now:Int) (hp:s.Waiting.length≤1000∧s.Pending.length≤1000) (v:Procs×(List Control)×(List Indication)) (hv:v=procHandleK15 s c event now): procHandleK15.nf s c event now v:=by
 unfold procHandleK15 at hv
 unfold procHandleK15.nf
 refine ⟨⟨?_⟩, ?_⟩;rotate_left
 refine ⟨⟨?_⟩, ?_⟩;rotate_left
 revert hv;refine by_cond2 (fun hb hv=>?_) (fun hb hv=>?_)
 subst hv;exact ⟨rfl,rfl⟩
 revert hv;refine by_cond2 (fun hb hv=>?_) (fun hb hv=>?_)
 subst hv;exact ⟨rfl,rfl⟩
 revert hv;refine by_cond2 (fun hb hv=>?_) (fun hb hv=>?_)
 refine ⟨⟨?_⟩, ?_⟩;rotate_left
 subst hv;exact ⟨rfl,rfl⟩
 refine ⟨⟨?_⟩, ?_⟩;rotate_left
 subst hv;exact ⟨rfl,rfl⟩
 all_goals ((try clear hv);(try clear q1 q2);(try clear hk);(first | omega | (decide +kernel)| ((try simp only [decide_eq_true_eq,decide_eq_false_iff_not,Bool.not_eq_true,Bool.not_eq_false,Bool.and_eq_true,Bool.or_eq_true,Bool.not_not,cond_and,cond_or,List.length_append,List.length_cons,List.length_nil] at *);(first | done | ((omega))))))
def procHandleK18.res (r:Procs×(List Control)×(List Indication)): AV El:=.tup [Procs.av (r.1), .sl 37 (r.2.1:List (El 37)) false, .sl 57 (r.2.2:List (El 57)) false]
def procHandleK18.news (r:Procs×(List Control)×(List Indication)): List (AObj El):= []
def procHandleK18.L (e v:Procs×(List Control)×(List Indication)): Prop:=procHandleK18.res e=procHandleK18.res v∧procHandleK18.news e=procHandleK18.news v
def procHandleK18 (s:Procs) (c:Control) (event:Int) (now:Int): Procs×(List Control)×(List Indication):= cond (s.Ended != 0) ((s,[],[])) ((s,[]++ [{Kind:=19,Update:={WinSize:=0,WinOffset:=0,Interval:=0,Latency:=0,Timeout:=0:Update},Map:=0,Instant:=0,Reason:=0,Rejected:=0,Salt:=0,Mark:=0,Features:=0,Version:=0,Length:=0:Control}],[]))
def procHandleK18.nf (s:Procs) (c:Control) (event:Int) (now:Int) (v:Procs×(List Control)×(List Indication)): Prop:=Ob (List.length s.Waiting*(120:Nat)≤(140737488355328:Nat))∧(Ob (List.length s.Pending*(64:Nat)≤(140737488355328:Nat))∧(cond (s.Ended != 0) (procHandleK18.L ((s,[],[])) v) (Ob (((0:Nat)+ List.length [{Kind:=19,Update:={WinSize:=0,WinOffset:=0,Interval:=0,Latency:=0,Timeout:=0:Update},Map:=0,Instant:=0,Reason:=0,Rejected:=0,Salt:=0,Mark:=0,Features:=0,Version:=0,Length:=0:Control}])* (120:Nat)≤(140737488355328:Nat))∧(procHandleK18.L ((s,[]++ [{Kind:=19,Update:={WinSize:=0,WinOffset:=0,Interval:=0,Latency:=0,Timeout:=0:Update},Map:=0,Instant:=0,Reason:=0,Rejected:=0,Salt:=0,Mark:=0,Features:=0,Version:=0,Length:=0:Control}],[])) v))))
theorem procHandleK18.nf_ok (s:Procs) (c:Control) (event:Int) (now:Int) (v:Procs×(List Control)×(List Indication)): evFun (mkCxQ Tryz.prog S tab_procStart 0 true true sum0 36 handlersQ) 6 10 [Procs.av s,Control.av ({c with Kind:=(18:Int)}: Control), .v (.int .u16 event), .v (.int .i64 now)] [] (fun r' H'=>Gives r' H' (procHandleK18.res v) (procHandleK18.news v))= procHandleK18.nf s c event now v:=by kernel_rfl
theorem procHandleK18.key (s:Procs) (c:Control) (event:Int) (now:Int) (hp:s.Waiting.length≤1000∧s.Pending.length≤1000) (v:Procs×(List Control)×(List Indication)) (hv:v=procHandleK18 s c event now): procHandleK18.nf s c event now v:=by
 unfold procHandleK18 at hv
 unfold procHandleK18.nf
 refine ⟨⟨?_⟩, ?_⟩;rotate_left
 refine ⟨⟨?_⟩, ?_⟩;rotate_left
 revert hv;refine by_cond2 (fun hb hv=>?_) (fun hb hv=>?_)
 subst hv;exact ⟨rfl,rfl⟩
 refine ⟨⟨?_⟩, ?_⟩;rotate_left
 subst hv;exact ⟨rfl,rfl⟩
 all_goals ((try clear hv);(try clear q1 q2);(try clear hk);(first | omega | (decide +kernel)))
def procHandleK19.res (r:Procs×(List Control)×(List Indication)): AV El:=.tup [Procs.av (r.1), .sl 37 (r.2.1:List (El 37)) false, .sl 57 (r.2.2:List (El 57)) false]
def procHandleK19.news (r:Procs×(List Control)×(List Indication)): List (AObj El):= []
def procHandleK19.L (e v:Procs×(List Control)×(List Indication)): Prop:=procHandleK19.res e=procHandleK19.res v∧procHandleK19.news e=procHandleK19.news v
def procHandleK19 (s:Procs) (c:Control) (event:Int) (now:Int): Procs×(List Control)×(List Indication):= cond (s.Ended != 0) ((s,[],[])) (cond (s.Own==18) ((({s with Own:=(-1)}: Procs),[],[{Kind:=7,Event:=0,Packet:={LLID:=0,Payload:=[]: Packet},Change:={Kind:=0,Instant:=0,Update:={WinSize:=0,WinOffset:=0,Interval:=0,Latency:=0,Timeout:=0:Update},Map:=0:Change},Number:=0,Update:={WinSize:=0,WinOffset:=0,Interval:=0,Latency:=0,Timeout:=0:Update}: Indication}])) ((s,[],[])))
def procHandleK19.nf (s:Procs) (c:Control) (event:Int) (now:Int) (v:Procs×(List Control)×(List Indication)): Prop:=Ob (List.length s.Waiting*(120:Nat)≤(140737488355328:Nat))∧(Ob (List.length s.Pending*(64:Nat)≤(140737488355328:Nat))∧(cond (s.Ended != 0) (procHandleK19.L ((s,[],[])) v) (cond (s.Own==18) (Ob (List.length [{Kind:=7,Event:=0,Packet:={LLID:=0,Payload:=[]: Packet},Change:={Kind:=0,Instant:=0,Update:={WinSize:=0,WinOffset:=0,Interval:=0,Latency:=0,Timeout:=0:Update},Map:=0:Change},Number:=0,Update:={WinSize:=0,WinOffset:=0,Interval:=0,Latency:=0,Timeout:=0:Update}: Indication}]* (160:Nat)≤(140737488355328:Nat))∧(procHandleK19.L ((({s with Own:=(-1)}: Procs),[],[{Kind:=7,Event:=0,Packet:={LLID:=0,Payload:=[]: Packet},Change:={Kind:=0,Instant:=0,Update:={WinSize:=0,WinOffset:=0,Interval:=0,Latency:=0,Timeout:=0:Update},Map:=0:Change},Number:=0,Update:={WinSize:=0,WinOffset:=0,Interval:=0,Latency:=0,Timeout:=0:Update}: Indication}])) v)) (procHandleK19.L ((s,[],[])) v))))
theorem procHandleK19.nf_ok (s:Procs) (c:Control) (event:Int) (now:Int) (v:Procs×(List Control)×(List Indication)): evFun (mkCxQ Tryz.prog S tab_procStart 0 true true sum0 36 handlersQ) 6 10 [Procs.av s,Control.av ({c with Kind:=(19:Int)}: Control), .v (.int .u16 event), .v (.int .i64 now)] [] (fun r' H'=>Gives r' H' (procHandleK19.res v) (procHandleK19.news v))= procHandleK19.nf s c event now v:=by kernel_rfl
theorem procHandleK19.key (s:Procs) (c:Control) (event:Int) (now:Int) (hp:s.Waiting.length≤1000∧s.Pending.length≤1000) (v:Procs×(List Control)×(List Indication)) (hv:v=procHandleK19 s c event now): procHandleK19.nf s c event now v:=by
 unfold procHandleK19 at hv
 unfold procHandleK19.nf
 refine ⟨⟨?_⟩, ?_⟩;rotate_left
 refine ⟨⟨?_⟩, ?_⟩;rotate_left
 revert hv;refine by_cond2 (fun hb hv=>?_) (fun hb hv=>?_)
 subst hv;exact ⟨rfl,rfl⟩
 revert hv;refine by_cond2 (fun hb hv=>?_) (fun hb hv=>?_)
 refine ⟨⟨?_⟩, ?_⟩;rotate_left
 subst hv;exact ⟨rfl,rfl⟩
 subst hv;exact ⟨rfl,rfl⟩
 all_goals ((try clear hv);(try clear q1 q2);(try clear hk);(first | omega | (decide +kernel)))
def procHandleK20.res (r:Procs×(List Control)×(List Indication)): AV El:=.tup [Procs.av (r.1), .sl 37 (r.2.1:List (El 37)) false, .sl 57 (r.2.2:List (El 57)) false]
def procHandleK20.news (r:Procs×(List Control)×(List Indication)): List (AObj El):= []
def procHandleK20.L (e v:Procs×(List Control)×(List Indication)): Prop:=procHandleK20.res e=procHandleK20.res v∧procHandleK20.news e=procHandleK20.news v
def procHandleK20 (s:Procs) (c:Control) (event:Int) (now:Int): Procs×(List Control)×(List Indication):= cond (s.Ended != 0) ((s,[],[])) ((({s with Length:=minI c.Length s.Limit}: Procs),[]++ [{Kind:=21,Update:={WinSize:=0,WinOffset:=0,Interval:=0,Latency:=0,Timeout:=0:Update},Map:=0,Instant:=0,Reason:=0,Rejected:=0,Salt:=0,Mark:=0,Features:=0,Version:=0,Length:=s.Limit:Control}],[{Kind:=11,Event:=0,Packet:={LLID:=0,Payload:=[]: Packet},Change:={Kind:=0,Instant:=0,Update:={WinSize:=0,WinOffset:=0,Interval:=0,Latency:=0,Timeout:=0:Update},Map:=0:Change},Number:=IntKind.wrap IntKind.u64 (minI c.Length s.Limit),Update:={WinSize:=0,WinOffset:=0,Interval:=0,Latency:=0,Timeout:=0:Update}: Indication}]))
def procHandleK20.nf (s:Procs) (c:Control) (event:Int) (now:Int) (v:Procs×(List Control)×(List Indication)): Prop:=Ob (List.length s.Waiting*(120:Nat)≤(140737488355328:Nat))∧(Ob (List.length s.Pending*(64:Nat)≤(140737488355328:Nat))∧(cond (s.Ended != 0) (procHandleK20.L ((s,[],[])) v) (Ob (o3 (false))∧(Ob (o3 (false))∧(Ob (o3 (false))∧(Ob (o3 (false))∧(Ob (o3 (false))∧(Ob (o2 (false))∧(Ob (List.length [{Kind:=11,Event:=0,Packet:={LLID:=0,Payload:=[]: Packet},Change:={Kind:=0,Instant:=0,Update:={WinSize:=0,WinOffset:=0,Interval:=0,Latency:=0,Timeout:=0:Update},Map:=0:Change},Number:=IntKind.wrap IntKind.u64 (minI c.Length s.Limit),Update:={WinSize:=0,WinOffset:=0,Interval:=0,Latency:=0,Timeout:=0:Update}: Indication}]* (160:Nat)≤(140737488355328:Nat))∧(Ob (((0:Nat)+ List.length [{Kind:=21,Update:={WinSize:=0,WinOffset:=0,Interval:=0,Latency:=0,Timeout:=0:Update},Map:=0,Instant:=0,Reason:=0,Rejected:=0,Salt:=0,Mark:=0,Features:=0,Version:=0,Length:=s.Limit:Control}])* (120:Nat)≤(140737488355328:Nat))∧(procHandleK20.L ((({s with Length:=minI c.Length s.Limit}: Procs),[]++ [{Kind:=21,Update:={WinSize:=0,WinOffset:=0,Interval:=0,Latency:=0,Timeout:=0:Update},Map:=0,Instant:=0,Reason:=0,Rejected:=0,Salt:=0,Mark:=0,Features:=0,Version:=0,Length:=s.Limit:Control}],[{Kind:=11,Event:=0,Packet:={LLID:=0,Payload:=[]: Packet},Change:={Kind:=0,Instant:=0,Update:={WinSize:=0,WinOffset:=0,Interval:=0,Latency:=0,Timeout:=0:Update},Map:=0:Change},Number:=IntKind.wrap IntKind.u64 (minI c.Length s.Limit),Update:={WinSize:=0,WinOffset:=0,Interval:=0,Latency:=0,Timeout:=0:Update}: Indication}])) v)))))))))))
theorem procHandleK20.nf_ok (s:Procs) (c:Control) (event:Int) (now:Int) (v:Procs×(List Control)×(List Indication)): evFun (mkCxQ Tryz.prog S tab_procStart 0 true true sum0 36 handlersQ) 6 10 [Procs.av s,Control.av ({c with Kind:=(20:Int)}: Control), .v (.int .u16 event), .v (.int .i64 now)] [] (fun r' H'=>Gives r' H' (procHandleK20.res v) (procHandleK20.news v))= procHandleK20.nf s c event now v:=by kernel_rfl
theorem procHandleK20.key (s:Procs) (c:Control) (event:Int) (now:Int) (hp:s.Waiting.length≤1000∧s.Pending.length≤1000) (v:Procs×(List Control)×(List Indication)) (hv:v=procHandleK20 s c event now): procHandleK20.nf s c event now v:=by
 unfold procHandleK20 at hv
 unfold procHandleK20.nf
 refine ⟨⟨?_⟩, ?_⟩;rotate_left
 refine ⟨⟨?_⟩, ?_⟩;rotate_left
 revert hv;refine by_cond2 (fun hb hv=>?_) (fun hb hv=>?_)
 subst hv;exact ⟨rfl,rfl⟩
 iterate 5 refine ⟨⟨o3_ok _⟩, ?_⟩
 refine ⟨⟨o2_ok _⟩, ?_⟩
 refine ⟨⟨by (try clear hv);(try clear q1 q2);(try clear hk);(((try simp only [decide_eq_true_eq,decide_eq_false_iff_not,Bool.not_eq_true,Bool.not_eq_false,Bool.and_eq_true,Bool.or_eq_true,Bool.not_not,cond_and,cond_or,List.length_append,List.length_cons,List.length_nil] at *);(first | done | (have:=wu64s (minI c.Length s.Limit);(omega)))))⟩, ?_⟩
 refine ⟨⟨?_⟩, ?_⟩;rotate_left
 subst hv;exact ⟨rfl,rfl⟩
 all_goals ((try clear hv);(try clear q1 q2);(try clear hk);(first | omega | ((try simp only [decide_eq_true_eq,decide_eq_false_iff_not,Bool.not_eq_true,Bool.not_eq_false,Bool.and_eq_true,Bool.or_eq_true,Bool.not_not,cond_and,cond_or,List.length_append,List.length_cons,List.length_nil] at *);(first | done | ((omega))))))
def procHandleK21.res (r:Procs×(List Control)×(List Indication)): AV El:=.tup [Procs.av (r.1), .sl 37 (r.2.1:List (El 37)) false, .sl 57 (r.2.2:List (El 57)) false]
def procHandleK21.news (r:Procs×(List Control)×(List Indication)): List (AObj El):= []
def procHandleK21.L (e v:Procs×(List Control)×(List Indication)): Prop:=procHandleK21.res e=procHandleK21.res v∧procHandleK21.news e=procHandleK21.news v
def procHandleK21 (s:Procs) (c:Control) (event:Int) (now:Int): Procs×(List Control)×(List Indication):= cond (s.Ended != 0) ((s,[],[])) (cond (bif (21:Int)== (21:Int) then s.Own != 20 else false) ((s,[],[])) ((({s with Own:=(-1),Length:=minI c.Length s.Limit}: Procs),[],[{Kind:=11,Event:=0,Packet:={LLID:=0,Payload:=[]: Packet},Change:={Kind:=0,Instant:=0,Update:={WinSize:=0,WinOffset:=0,Interval:=0,Latency:=0,Timeout:=0:Update},Map:=0:Change},Number:=IntKind.wrap IntKind.u64 (minI c.Length s.Limit),Update:={WinSize:=0,WinOffset:=0,Interval:=0,Latency:=0,Timeout:=0:Update}: Indication}])))
def procHandleK21.nf (s:Procs) (c:Control) (event:Int) (now:Int) (v:Procs×(List Control)×(List Indication)): Prop:=Ob (List.length s.Waiting*(120:Nat)≤(140737488355328:Nat))∧(Ob (List.length s.Pending*(64:Nat)≤(140737488355328:Nat))∧(cond (s.Ended != 0) (procHandleK21.L ((s,[],[])) v) (Ob (o3 (true))∧(Ob (o3 (true))∧(Ob (o3 (true))∧(Ob (o3 (true))∧(Ob (o3 (true))∧(Ob (o2 (true))∧(cond (bif (21:Int)== (21:Int) then s.Own != 20 else false) (procHandleK21.L ((s,[],[])) v) (Ob (List.length [{Kind:=11,Event:=0,Packet:={LLID:=0,Payload:=[]: Packet},Change:={Kind:=0,Instant:=0,Update:={WinSize:=0,WinOffset:=0,Interval:=0,Latency:=0,Timeout:=0:Update},Map:=0:Change},Number:=IntKind.wrap IntKind.u64 (minI c.Length s.Limit),Update:={WinSize:=0,WinOffset:=0,Interval:=0,Latency:=0,Timeout:=0:Update}: Indication}]* (160:Nat)≤(140737488355328:Nat))∧(procHandleK21.L ((({s with Own:=(-1),Length:=minI c.Length s.Limit}: Procs),[],[{Kind:=11,Event:=0,Packet:={LLID:=0,Payload:=[]: Packet},Change:={Kind:=0,Instant:=0,Update:={WinSize:=0,WinOffset:=0,Interval:=0,Latency:=0,Timeout:=0:Update},Map:=0:Change},Number:=IntKind.wrap IntKind.u64 (minI c.Length s.Limit),Update:={WinSize:=0,WinOffset:=0,Interval:=0,Latency:=0,Timeout:=0:Update}: Indication}])) v)))))))))))
theorem procHandleK21.nf_ok (s:Procs) (c:Control) (event:Int) (now:Int) (v:Procs×(List Control)×(List Indication)): evFun (mkCxQ Tryz.prog S tab_procStart 0 true true sum0 36 handlersQ) 6 10 [Procs.av s,Control.av ({c with Kind:=(21:Int)}: Control), .v (.int .u16 event), .v (.int .i64 now)] [] (fun r' H'=>Gives r' H' (procHandleK21.res v) (procHandleK21.news v))= procHandleK21.nf s c event now v:=by kernel_rfl
theorem procHandleK21.key (s:Procs) (c:Control) (event:Int) (now:Int) (hp:s.Waiting.length≤1000∧s.Pending.length≤1000) (v:Procs×(List Control)×(List Indication)) (hv:v=procHandleK21 s c event now): procHandleK21.nf s c event now v:=by
 unfold procHandleK21 at hv
 unfold procHandleK21.nf
 refine ⟨⟨?_⟩, ?_⟩;rotate_left
 refine ⟨⟨?_⟩, ?_⟩;rotate_left
 revert hv;refine by_cond2 (fun hb hv=>?_) (fun hb hv=>?_)
 subst hv;exact ⟨rfl,rfl⟩
 iterate 5 refine ⟨⟨o3_ok _⟩, ?_⟩
 refine ⟨⟨o2_ok _⟩, ?_⟩
 revert hv;refine by_cond2 (fun hb hv=>?_) (fun hb hv=>?_)
 subst hv;exact ⟨rfl,rfl⟩
 refine ⟨⟨by (try clear hv);(try clear q1 q2);(try clear hk);(((try simp only [decide_eq_true_eq,decide_eq_false_iff_not,Bool.not_eq_true,Bool.not_eq_false,Bool.and_eq_true,Bool.or_eq_true,Bool.not_not,cond_and,cond_or,List.length_append,List.length_cons,List.length_nil] at *);(first | done | (have:=wu64s (minI c.Length s.Limit);(omega)))))⟩, ?_⟩
 subst hv;exact ⟨rfl,rfl⟩
 all_goals ((try clear hv);(try clear q1 q2);(try clear hk);(omega))
def procHandleO.res (r:Procs×(List Control)×(List Indication)): AV El:=.tup [Procs.av (r.1), .sl 37 (r.2.1:List (El 37)) false, .sl 57 (r.2.2:List (El 57)) false]
def procHandleO.news (r:Procs×(List Control)×(List Indication)): List (AObj El):= []
def procHandleO.L (e v:Procs×(List Control)×(List Indication)): Prop:=procHandleO.res e=procHandleO.res v∧procHandleO.news e=procHandleO.news v
def procHandleO (s:Procs) (c:Control) (event:Int) (now:Int): Procs×(List Control)×(List Indication):= cond (s.Ended != 0) ((s,[],[])) (cond (c.Kind==0) ((Procs.zero,[],[])) (cond (c.Kind==1) ((Procs.zero,[],[])) (cond (c.Kind==2) ((Procs.zero,[],[])) (cond (c.Kind==3) ((Procs.zero,[],[])) (cond (c.Kind==4) ((Procs.zero,[],[])) (cond (c.Kind==5) ((Procs.zero,[],[])) (cond (c.Kind==6) ((Procs.zero,[],[])) (cond (c.Kind==7) ((Procs.zero,[],[])) (cond (c.Kind==13) ((Procs.zero,[],[])) (cond (c.Kind==8) ((Procs.zero,[],[])) (cond (c.Kind==9) ((Procs.zero,[],[])) (cond (c.Kind==12) ((Procs.zero,[],[])) (cond (c.Kind==15) ((Procs.zero,[],[])) (cond (c.Kind==18) ((Procs.zero,[],[])) (cond (c.Kind==19) ((Procs.zero,[],[])) (cond (c.Kind==20) ((Procs.zero,[],[])) (cond (c.Kind==21) ((Procs.zero,[],[])) ((s,[]++ [{Kind:=7,Update:={WinSize:=0,WinOffset:=0,Interval:=0,Latency:=0,Timeout:=0:Update},Map:=0,Instant:=0,Reason:=0,Rejected:=maxI 0 (minI c.Kind 255),Salt:=0,Mark:=0,Features:=0,Version:=0,Length:=0:Control}],[])))))))))))))))))))
def procHandleO.nf (s:Procs) (c:Control) (event:Int) (now:Int) (v:Procs×(List Control)×(List Indication)): Prop:=Ob (List.length s.Waiting*(120:Nat)≤(140737488355328:Nat))∧(Ob (List.length s.Pending*(64:Nat)≤(140737488355328:Nat))∧(cond (s.Ended != 0) (procHandleO.L ((s,[],[])) v) (cond (c.Kind==0) (False) (cond (c.Kind==1) (False) (cond (c.Kind==2) (False) (cond (c.Kind==3) (False) (cond (c.Kind==4) (False) (cond (c.Kind==5) (False) (cond (c.Kind==6) (False) (cond (c.Kind==7) (False) (cond (c.Kind==13) (False) (cond (c.Kind==8) (False) (cond (c.Kind==9) (False) (cond (c.Kind==12) (False) (cond (c.Kind==15) (False) (cond (c.Kind==18) (False) (cond (c.Kind==19) (False) (cond (c.Kind==20) (False) (cond (c.Kind==21) (False) (Ob (((0:Nat)+ List.length [{Kind:=7,Update:={WinSize:=0,WinOffset:=0,Interval:=0,Latency:=0,Timeout:=0:Update},Map:=0,Instant:=0,Reason:=0,Rejected:=maxI 0 (minI c.Kind 255),Salt:=0,Mark:=0,Features:=0,Version:=0,Length:=0:Control}])* (120:Nat)≤(140737488355328:Nat))∧(procHandleO.L ((s,[]++ [{Kind:=7,Update:={WinSize:=0,WinOffset:=0,Interval:=0,Latency:=0,Timeout:=0:Update},Map:=0,Instant:=0,Reason:=0,Rejected:=maxI 0 (minI c.Kind 255),Salt:=0,Mark:=0,Features:=0,Version:=0,Length:=0:Control}],[])) v)))))))))))))))))))))
theorem procHandleO.nf_ok (s:Procs) (c:Control) (event:Int) (now:Int) (v:Procs×(List Control)×(List Indication)): evFunT (mkCxQ Tryz.prog S tab_procStart 0 true true sum0 36 handlersQ) rHandle 6 10 [Procs.av s,Control.av c, .v (.int .u16 event), .v (.int .i64 now)] [] (fun r' H'=>Gives r' H' (procHandleO.res v) (procHandleO.news v))= procHandleO.nf s c event now v:=by kernel_rfl
theorem procHandleO.key (s:Procs) (c:Control) (event:Int) (now:Int) (hp:(c.Kind==(0:Int))= false∧(c.Kind==(1:Int))= false∧(c.Kind==(2:Int))= false∧(c.Kind==(3:Int))= false∧(c.Kind==(4:Int))= false∧(c.Kind==(5:Int))= false∧(c.Kind==(6:Int))= false∧(c.Kind==(7:Int))= false∧(c.Kind==(8:Int))= false∧(c.Kind==(9:Int))= false∧(c.Kind==(12:Int))= false∧(c.Kind==(13:Int))= false∧(c.Kind==(15:Int))= false∧(c.Kind==(18:Int))= false∧(c.Kind==(19:Int))= false∧(c.Kind==(20:Int))= false∧(c.Kind==(21:Int))= false∧s.Waiting.length≤1000∧s.Pending.length≤1000) (v:Procs×(List Control)×(List Indication)) (hv:v=procHandleO s c event now): procHandleO.nf s c event now v:=by
 unfold procHandleO at hv
 unfold procHandleO.nf
 refine ⟨⟨?_⟩, ?_⟩;rotate_left
 refine ⟨⟨?_⟩, ?_⟩;rotate_left
 revert hv;refine by_cond2 (fun hb hv=>?_) (fun hb hv=>?_)
 subst hv;exact ⟨rfl,rfl⟩
 revert hv;refine by_cond2 (fun hb hv=>?_) (fun hb hv=>?_)
 exact False.elim (by (try clear hv);(try clear q1 q2);(try clear hk);(simp_all;done))
 revert hv;refine by_cond2 (fun hb hv=>?_) (fun hb hv=>?_)
 exact False.elim (by (try clear hv);(try clear q1 q2);(try clear hk);(simp_all;done))
 revert hv;refine by_cond2 (fun hb hv=>?_) (fun hb hv=>?_)
 exact False.elim (by (try clear hv);(try clear q1 q2);(try clear hk);(simp_all;done))
 revert hv;refine by_cond2 (fun hb hv=>?_) (fun hb hv=>?_)
 exact False.elim (by (try clear hv);(try clear q1 q2);(try clear hk);(simp_all;done))
 revert hv;refine by_cond2 (fun hb hv=>?_) (fun hb hv=>?_)
 exact False.elim (by (try clear hv);(try clear q1 q2);(try clear hk);(simp_all;done))
 revert hv;refine by_cond2 (fun hb hv=>?_) (fun hb hv=>?_)
 exact False.elim (by (try clear hv);(try clear q1 q2);(try clear hk);(simp_all;done))
 revert hv;refine by_cond2 (fun hb hv=>?_) (fun hb hv=>?_)
 exact False.elim (by (try clear hv);(try clear q1 q2);(try clear hk);(simp_all;done))
 revert hv;refine by_cond2 (fun hb hv=>?_) (fun hb hv=>?_)
 exact False.elim (by (try clear hv);(try clear q1 q2);(try clear hk);(simp_all;done))
 revert hv;refine by_cond2 (fun hb hv=>?_) (fun hb hv=>?_)
 exact False.elim (by (try clear hv);(try clear q1 q2);(try clear hk);(simp_all;done))
 revert hv;refine by_cond2 (fun hb hv=>?_) (fun hb hv=>?_)
 exact False.elim (by (try clear hv);(try clear q1 q2);(try clear hk);(simp_all;done))
 revert hv;refine by_cond2 (fun hb hv=>?_) (fun hb hv=>?_)
 exact False.elim (by (try clear hv);(try clear q1 q2);(try clear hk);(simp_all;done))
 revert hv;refine by_cond2 (fun hb hv=>?_) (fun hb hv=>?_)
 exact False.elim (by (try clear hv);(try clear q1 q2);(try clear hk);(simp_all;done))
 revert hv;refine by_cond2 (fun hb hv=>?_) (fun hb hv=>?_)
 exact False.elim (by (try clear hv);(try clear q1 q2);(try clear hk);(simp_all;done))
 revert hv;refine by_cond2 (fun hb hv=>?_) (fun hb hv=>?_)
 exact False.elim (by (try clear hv);(try clear q1 q2);(try clear hk);(simp_all;done))
 revert hv;refine by_cond2 (fun hb hv=>?_) (fun hb hv=>?_)
 exact False.elim (by (try clear hv);(try clear q1 q2);(try clear hk);(simp_all;done))
 revert hv;refine by_cond2 (fun hb hv=>?_) (fun hb hv=>?_)
 exact False.elim (by (try clear hv);(try clear q1 q2);(try clear hk);(simp_all;done))
 revert hv;refine by_cond2 (fun hb hv=>?_) (fun hb hv=>?_)
 exact False.elim (by (try clear hv);(try clear q1 q2);(try clear hk);(simp_all;done))
 refine ⟨⟨?_⟩, ?_⟩;rotate_left
 subst hv;exact ⟨rfl,rfl⟩
 all_goals ((try clear hv);(try clear q1 q2);(try clear hk);(first | omega | ((try simp only [decide_eq_true_eq,decide_eq_false_iff_not,Bool.not_eq_true,Bool.not_eq_false,Bool.and_eq_true,Bool.or_eq_true,Bool.not_not,cond_and,cond_or,List.length_append,List.length_cons,List.length_nil] at *);(first | done | ((omega))))))
def procHandle (s:Procs) (c:Control) (event:Int) (now:Int): Procs×(List Control)×(List Indication):= cond (c.Kind==0) (procHandleK0 s c event now) (cond (c.Kind==1) (procHandleK1 s c event now) (cond (c.Kind==2) (procHandleK2 s c event now) (cond (c.Kind==3) (procHandleK3 s c event now) (cond (c.Kind==4) (procHandleK4 s c event now) (cond (c.Kind==5) (procHandleK5 s c event now) (cond (c.Kind==6) (procHandleK6 s c event now) (cond (c.Kind==7) (procHandleK7 s c event now) (cond (c.Kind==8) (procHandleK8 s c event now) (cond (c.Kind==9) (procHandleK9 s c event now) (cond (c.Kind==12) (procHandleK12 s c event now) (cond (c.Kind==13) (procHandleK13 s c event now) (cond (c.Kind==15) (procHandleK15 s c event now) (cond (c.Kind==18) (procHandleK18 s c event now) (cond (c.Kind==19) (procHandleK19 s c event now) (cond (c.Kind==20) (procHandleK20 s c event now) (cond (c.Kind==21) (procHandleK21 s c event now) (procHandleO s c event now)))))))))))))))))
def procHandle.res (r:Procs×(List Control)×(List Indication)): AV El:=procHandleK0.res r
def procHandle.news (r:Procs×(List Control)×(List Indication)): List (AObj El):= procHandleK0.news r
def procHandle.dec (cs:List (AV El)): Option (Procs×Control×Int×Int):= popA Procs.dec cs fun a0 c0=>popA Control.dec c0 fun a1 c1=>popI .u16 c1 fun a2 c2=>popI .i64 c2 fun a3 c3=>popE c3 (a0,a1,a2,a3)
def procHandle.enc (x:Procs×Control×Int×Int): List (AV El):= [Procs.av x.1,Control.av x.2.1, .v (.int .u16 x.2.2.1), .v (.int .i64 x.2.2.2)]
theorem procHandle.dec_ok : ∀cs x,procHandle.dec cs=some x→Imp (S:=S) cs (procHandle.enc x):= by
 intro cs x h
 unfold procHandle.dec at h
 obtain ⟨a0,c0,h0,k0⟩:= popA_some (S:=S) Procs.dec_ok h
 obtain ⟨a1,c1,h1,k1⟩:= popA_some (S:=S) Control.dec_ok h0
 obtain ⟨a2,c2,rfl,h2⟩:= popI_some (S:=S) h1
 obtain ⟨a3,c3,rfl,h3⟩:= popI_some (S:=S) h2
 obtain ⟨rfl,rfl⟩:= popE_some (S:=S) h3
 exact (k0 _ (k1 _ (.cons (.cons (.refl _)))))
theorem procHandle.run (s:Procs) (c:Control) (event:Int) (now:Int) (hp:s.Waiting.length≤1000∧s.Pending.length≤1000) (v:Procs×(List Control)×(List Indication)) (hv:v=procHandle s c event now): evFun (mkCxQ Tryz.prog S tab_procStart 0 true true sum0 36 handlersQ) 7 10 [Procs.av s,Control.av c, .v (.int .u16 event), .v (.int .i64 now)] [] (fun r' H'=>Gives r' H' (procHandle.res v) (procHandle.news v)):= by
 unfold procHandle at hv
 cases h0:(c.Kind==(0:Int)) with
 | true =>
  rw [h0,cond_true] at hv
  have hc:({c with Kind:=(0:Int)}: Control)= c:=by cases c;have:=eq_of_beq h0;dsimp only at this;subst this;rfl
  have hr:=(procHandleK0.nf_ok s c event now v).mpr (procHandleK0.key s c event now hp v hv)
  rw [hc] at hr
  exact evFun_up _ _ _ _ _ _ hr
 | false =>
 rw [h0,cond_false] at hv
 cases h1:(c.Kind==(1:Int)) with
 | true =>
  rw [h1,cond_true] at hv
  have hc:({c with Kind:=(1:Int)}: Control)= c:=by cases c;have:=eq_of_beq h1;dsimp only at this;subst this;rfl
  have hr:=(procHandleK1.nf_ok s c event now v).mpr (procHandleK1.key s c event now hp v hv)
  rw [hc] at hr
  exact evFun_up _ _ _ _ _ _ hr
 | false =>
 rw [h1,cond_false] at hv
 cases h2:(c.Kind==(2:Int)) with
 | true =>
  rw [h2,cond_true] at hv
  have hc:({c with Kind:=(2:Int)}: Control)= c:=by cases c;have:=eq_of_beq h2;dsimp only at this;subst this;rfl
  have hr:=(procHandleK2.nf_ok s c event now v).mpr (procHandleK2.key s c event now hp v hv)
  rw [hc] at hr
  exact evFun_up _ _ _ _ _ _ hr
 | false =>
 rw [h2,cond_false] at hv
 cases h3:(c.Kind==(3:Int)) with
 | true =>
  rw [h3,cond_true] at hv
  have hc:({c with Kind:=(3:Int)}: Control)= c:=by cases c;have:=eq_of_beq h3;dsimp only at this;subst this;rfl
  have hr:=(procHandleK3.nf_ok s c event now v).mpr (procHandleK3.key s c event now hp v hv)
  rw [hc] at hr
  exact evFun_up _ _ _ _ _ _ hr
 | false =>
 rw [h3,cond_false] at hv
 cases h4:(c.Kind==(4:Int)) with
 | true =>
  rw [h4,cond_true] at hv
  have hc:({c with Kind:=(4:Int)}: Control)= c:=by cases c;have:=eq_of_beq h4;dsimp only at this;subst this;rfl
  have hr:=(procHandleK4.nf_ok s c event now v).mpr (procHandleK4.key s c event now hp v hv)
  rw [hc] at hr
  exact evFun_up _ _ _ _ _ _ hr
 | false =>
 rw [h4,cond_false] at hv
 cases h5:(c.Kind==(5:Int)) with
 | true =>
  rw [h5,cond_true] at hv
  have hc:({c with Kind:=(5:Int)}: Control)= c:=by cases c;have:=eq_of_beq h5;dsimp only at this;subst this;rfl
  have hr:=(procHandleK5.nf_ok s c event now v).mpr (procHandleK5.key s c event now hp v hv)
  rw [hc] at hr
  exact evFun_up _ _ _ _ _ _ hr
 | false =>
 rw [h5,cond_false] at hv
 cases h6:(c.Kind==(6:Int)) with
 | true =>
  rw [h6,cond_true] at hv
  have hc:({c with Kind:=(6:Int)}: Control)= c:=by cases c;have:=eq_of_beq h6;dsimp only at this;subst this;rfl
  have hr:=(procHandleK6.nf_ok s c event now v).mpr (procHandleK6.key s c event now hp v hv)
  rw [hc] at hr
  exact evFun_up _ _ _ _ _ _ hr
 | false =>
 rw [h6,cond_false] at hv
 cases h7:(c.Kind==(7:Int)) with
 | true =>
  rw [h7,cond_true] at hv
  have hc:({c with Kind:=(7:Int)}: Control)= c:=by cases c;have:=eq_of_beq h7;dsimp only at this;subst this;rfl
  have hr:=(procHandleK7.nf_ok s c event now v).mpr (procHandleK7.key s c event now hp v hv)
  rw [hc] at hr
  exact evFun_up _ _ _ _ _ _ hr
 | false =>
 rw [h7,cond_false] at hv
 cases h8:(c.Kind==(8:Int)) with
 | true =>
  rw [h8,cond_true] at hv
  have hc:({c with Kind:=(8:Int)}: Control)= c:=by cases c;have:=eq_of_beq h8;dsimp only at this;subst this;rfl
  have hr:=(procHandleK8.nf_ok s c event now v).mpr (procHandleK8.key s c event now hp v hv)
  rw [hc] at hr
  exact evFun_up _ _ _ _ _ _ hr
 | false =>
 rw [h8,cond_false] at hv
 cases h9:(c.Kind==(9:Int)) with
 | true =>
  rw [h9,cond_true] at hv
  have hc:({c with Kind:=(9:Int)}: Control)= c:=by cases c;have:=eq_of_beq h9;dsimp only at this;subst this;rfl
  have hr:=(procHandleK9.nf_ok s c event now v).mpr (procHandleK9.key s c event now hp v hv)
  rw [hc] at hr
  exact evFun_up _ _ _ _ _ _ hr
 | false =>
 rw [h9,cond_false] at hv
 cases h12:(c.Kind==(12:Int)) with
 | true =>
  rw [h12,cond_true] at hv
  have hc:({c with Kind:=(12:Int)}: Control)= c:=by cases c;have:=eq_of_beq h12;dsimp only at this;subst this;rfl
  have hr:=(procHandleK12.nf_ok s c event now v).mpr (procHandleK12.key s c event now hp v hv)
  rw [hc] at hr
  exact evFun_up _ _ _ _ _ _ hr
 | false =>
 rw [h12,cond_false] at hv
 cases h13:(c.Kind==(13:Int)) with
 | true =>
  rw [h13,cond_true] at hv
  have hc:({c with Kind:=(13:Int)}: Control)= c:=by cases c;have:=eq_of_beq h13;dsimp only at this;subst this;rfl
  have hr:=(procHandleK13.nf_ok s c event now v).mpr (procHandleK13.key s c event now hp v hv)
  rw [hc] at hr
  exact evFun_up _ _ _ _ _ _ hr
 | false =>
 rw [h13,cond_false] at hv
 cases h15:(c.Kind==(15:Int)) with
 | true =>
  rw [h15,cond_true] at hv
  have hc:({c with Kind:=(15:Int)}: Control)= c:=by cases c;have:=eq_of_beq h15;dsimp only at this;subst this;rfl
  have hr:=(procHandleK15.nf_ok s c event now v).mpr (procHandleK15.key s c event now hp v hv)
  rw [hc] at hr
  exact evFun_up _ _ _ _ _ _ hr
 | false =>
 rw [h15,cond_false] at hv
 cases h18:(c.Kind==(18:Int)) with
 | true =>
  rw [h18,cond_true] at hv
  have hc:({c with Kind:=(18:Int)}: Control)= c:=by cases c;have:=eq_of_beq h18;dsimp only at this;subst this;rfl
  have hr:=(procHandleK18.nf_ok s c event now v).mpr (procHandleK18.key s c event now hp v hv)
  rw [hc] at hr
  exact evFun_up _ _ _ _ _ _ hr
 | false =>
 rw [h18,cond_false] at hv
 cases h19:(c.Kind==(19:Int)) with
 | true =>
  rw [h19,cond_true] at hv
  have hc:({c with Kind:=(19:Int)}: Control)= c:=by cases c;have:=eq_of_beq h19;dsimp only at this;subst this;rfl
  have hr:=(procHandleK19.nf_ok s c event now v).mpr (procHandleK19.key s c event now hp v hv)
  rw [hc] at hr
  exact evFun_up _ _ _ _ _ _ hr
 | false =>
 rw [h19,cond_false] at hv
 cases h20:(c.Kind==(20:Int)) with
 | true =>
  rw [h20,cond_true] at hv
  have hc:({c with Kind:=(20:Int)}: Control)= c:=by cases c;have:=eq_of_beq h20;dsimp only at this;subst this;rfl
  have hr:=(procHandleK20.nf_ok s c event now v).mpr (procHandleK20.key s c event now hp v hv)
  rw [hc] at hr
  exact evFun_up _ _ _ _ _ _ hr
 | false =>
 rw [h20,cond_false] at hv
 cases h21:(c.Kind==(21:Int)) with
 | true =>
  rw [h21,cond_true] at hv
  have hc:({c with Kind:=(21:Int)}: Control)= c:=by cases c;have:=eq_of_beq h21;dsimp only at this;subst this;rfl
  have hr:=(procHandleK21.nf_ok s c event now v).mpr (procHandleK21.key s c event now hp v hv)
  rw [hc] at hr
  exact evFun_up _ _ _ _ _ _ hr
 | false =>
 rw [h21,cond_false] at hv
 exact evFunT_le 1 (fun f L h=>by unfold rHandle at h;revert h;cases (Nat.beq f 69 || Nat.beq f 70 || Nat.beq f 71 || Nat.beq f 72 || Nat.beq f 73 || Nat.beq f 74 || Nat.beq f 75 || Nat.beq f 76 || Nat.beq f 77 || Nat.beq f 78 || Nat.beq f 79 || Nat.beq f 80 || Nat.beq f 81) <;> intro h <;> cases h;exact fun _ _ _ k=>k.elim) 6 _ _ _ _ ((procHandleO.nf_ok s c event now v).mpr (procHandleO.key s c event now ⟨h0,h1,h2,h3,h4,h5,h6,h7,h8,h9,h12,h13,h15,h18,h19,h20,h21,hp⟩ v hv))
def procHandle.ct:Ct El:=ctOf procHandle.dec (fun x=>[x.1.Waiting.length≤1000∧x.1.Pending.length≤1000]) (fun x=>procHandle.res (procHandle x.1 x.2.1 x.2.2.1 x.2.2.2)) (fun x=>procHandle.news (procHandle x.1 x.2.1 x.2.2.1 x.2.2.2))
theorem procHandle.ok:CtOk (mkCx Tryz.prog S [] 0) 10 procHandle.ct:=ct_mk (C:=(mkCxQ Tryz.prog S tab_procStart 0 true true sum0 36 handlersQ)) (mkCxQ_ok sigOk mixed tab_procStart_ok 0 true true (sum0_ok Tryz.prog S) handlers.poly) procHandle.dec_ok (fun x=>rfl) 7 (fun x hp=>procHandle.run x.1 x.2.1 x.2.2.1 x.2.2.2 (hp _ (List.mem_singleton.2 rfl)) _ rfl)
def tab_procHandle:List (FuncId×Ct El):= (10,procHandle.ct):: tab_procStart
theorem tab_procHandle_ok:TabOk Tryz.prog S tab_procHandle:=⟨procHandle.ok,by kernel_rfl,tab_procStart_ok⟩
end Go.Aw.W
