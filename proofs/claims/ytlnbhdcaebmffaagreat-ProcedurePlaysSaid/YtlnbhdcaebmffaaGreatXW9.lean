/- Contracts of the seat (printed by ct.py). -/
import Derived.Test.YtlnbhdcaebmffaaGreatXW8
set_option linter.unusedVariables false
set_option linter.unusedSimpArgs false
set_option maxRecDepth 20000
set_option maxHeartbeats 1000000
namespace Go.Aw.W
open Go Go.Aw Go.Proofs
attribute [local irreducible] evCode evFun evOps evDs evOne ctxK loopK loopB subC bodyC headS okH roundK
attribute [local irreducible] cCheck loopL
theorem cProc_ne (n:Int) (hM1:(n==(-1:Int))= false) (h0:(n==(0:Int))= false) (h1:(n==(1:Int))= false) (h2:(n==(2:Int))= false) (h3:(n==(3:Int))= false) (h8:(n==(8:Int))= false) (h12:(n==(12:Int))= false) (h15:(n==(15:Int))= false) (h18:(n==(18:Int))= false) (h20:(n==(20:Int))= false): (cProc n != n)= true:=by
 simp only [beq_eq_false_iff_ne,ne_eq] at *
 simp only [bne_iff_ne,ne_eq,cProc,Bool.cond_eq_ite,beq_iff_eq]
 repeat' split
 all_goals omega
def rStart:FuncId→Option (RL El):= fun f=>bif Nat.beq f 31 then some (fun _ _ _=>False) else none
def procStartKM1.res (r:Procs×(List Control)×Int): AV El:=.tup [Procs.av (r.1), .sl 37 (r.2.1:List (El 37)) false, .v (.int .i64 (r.2.2))]
def procStartKM1.news (r:Procs×(List Control)×Int): List (AObj El):= []
def procStartKM1.L (e v:Procs×(List Control)×Int): Prop:=procStartKM1.res e=procStartKM1.res v∧procStartKM1.news e=procStartKM1.news v
def procStartKM1 (s:Procs) (c:Control) (event:Int) (now:Int): Procs×(List Control)×Int:=(s,[],cCheck {Kind:=(-1),Update:=c.Update,Map:=c.Map,Instant:=c.Instant,Reason:=c.Reason,Rejected:=c.Rejected,Salt:=c.Salt,Mark:=c.Mark,Features:=c.Features,Version:=c.Version,Length:=c.Length:Control})
def procStartKM1.nf (s:Procs) (c:Control) (event:Int) (now:Int) (v:Procs×(List Control)×Int): Prop:=Ob (List.length s.Waiting*(120:Nat)≤(140737488355328:Nat))∧(Ob (List.length s.Pending*(64:Nat)≤(140737488355328:Nat))∧(procStartKM1.L ((s,[],cCheck {Kind:=(-1),Update:=c.Update,Map:=c.Map,Instant:=c.Instant,Reason:=c.Reason,Rejected:=c.Rejected,Salt:=c.Salt,Mark:=c.Mark,Features:=c.Features,Version:=c.Version,Length:=c.Length:Control})) v))
theorem procStartKM1.nf_ok (s:Procs) (c:Control) (event:Int) (now:Int) (v:Procs×(List Control)×Int): evFun (mkCxN Tryz.prog S tab_conEnc 0 [61,62]) 6 9 [Procs.av s,Control.av ({c with Kind:=(-1:Int)}: Control), .v (.int .u16 event), .v (.int .i64 now)] [] (fun r' H'=>Gives r' H' (procStartKM1.res v) (procStartKM1.news v))= procStartKM1.nf s c event now v:=by kernel_rfl
theorem procStartKM1.key (s:Procs) (c:Control) (event:Int) (now:Int) (hp:s.Waiting.length≤1000∧s.Pending.length≤1000) (v:Procs×(List Control)×Int) (hv:v=procStartKM1 s c event now): procStartKM1.nf s c event now v:=by
 unfold procStartKM1 at hv
 unfold procStartKM1.nf
 refine ⟨⟨?_⟩, ?_⟩;rotate_left
 refine ⟨⟨?_⟩, ?_⟩;rotate_left
 subst hv;exact ⟨rfl,rfl⟩
 all_goals ((try clear hv);(try clear q1 q2);(try clear hk);(omega))
def procStartK0.res (r:Procs×(List Control)×Int): AV El:=.tup [Procs.av (r.1), .sl 37 (r.2.1:List (El 37)) false, .v (.int .i64 (r.2.2))]
def procStartK0.news (r:Procs×(List Control)×Int): List (AObj El):= []
def procStartK0.L (e v:Procs×(List Control)×Int): Prop:=procStartK0.res e=procStartK0.res v∧procStartK0.news e=procStartK0.news v
def procStartK0 (s:Procs) (c:Control) (event:Int) (now:Int): Procs×(List Control)×Int:=cond (cCheck {Kind:=0,Update:=c.Update,Map:=c.Map,Instant:=0,Reason:=c.Reason,Rejected:=c.Rejected,Salt:=c.Salt,Mark:=c.Mark,Features:=c.Features,Version:=c.Version,Length:=c.Length:Control} != 0) ((s,[],cCheck {Kind:=0,Update:=c.Update,Map:=c.Map,Instant:=0,Reason:=c.Reason,Rejected:=c.Rejected,Salt:=c.Salt,Mark:=c.Mark,Features:=c.Features,Version:=c.Version,Length:=c.Length:Control})) (cond (bif s.Ended != 0 then true else s.Own==2) ((s,[],9)) (cond (bif !s.Role != 1 then true else bif (0:Int)== (3:Int) then bif s.Crypt != 0 then true else conEnc s.Waiting else false) ((s,[],9)) (cond (bif bif s.Own==(-1) then (↑(List.length s.Waiting): Int)== 0 else false then !bif pChanges 0 then decide (0 < (↑(List.length s.Pending): Int)) else false else false) (cond (bif (0:Int)== (0:Int) then s.Other==15 else false) ((({s with Own:=0,Since:=now,Other:=(-1),Pending:=(insAdd s.Pending event (pChange {Kind:=0,Update:=c.Update,Map:=c.Map,Instant:=insPlan event 0,Reason:=c.Reason,Rejected:=c.Rejected,Salt:=c.Salt,Mark:=c.Mark,Features:=c.Features,Version:=c.Version,Length:=c.Length:Control})).fst,Told:=false}: Procs),[]++ [{Kind:=0,Update:=c.Update,Map:=c.Map,Instant:=insPlan event 0,Reason:=c.Reason,Rejected:=c.Rejected,Salt:=c.Salt,Mark:=c.Mark,Features:=c.Features,Version:=c.Version,Length:=c.Length:Control}],0)) ((({s with Own:=0,Since:=now,Pending:=(insAdd s.Pending event (pChange {Kind:=0,Update:=c.Update,Map:=c.Map,Instant:=insPlan event 0,Reason:=c.Reason,Rejected:=c.Rejected,Salt:=c.Salt,Mark:=c.Mark,Features:=c.Features,Version:=c.Version,Length:=c.Length:Control})).fst,Told:=false}: Procs),[]++ [{Kind:=0,Update:=c.Update,Map:=c.Map,Instant:=insPlan event 0,Reason:=c.Reason,Rejected:=c.Rejected,Salt:=c.Salt,Mark:=c.Mark,Features:=c.Features,Version:=c.Version,Length:=c.Length:Control}],0))) (cond (decide (8≤(↑(List.length s.Waiting): Int))) ((s,[],8)) ((({s with Waiting:=s.Waiting ++ [{Kind:=0,Update:=c.Update,Map:=c.Map,Instant:=0,Reason:=c.Reason,Rejected:=c.Rejected,Salt:=c.Salt,Mark:=c.Mark,Features:=c.Features,Version:=c.Version,Length:=c.Length:Control}]}: Procs),[],0))))))
def procStartK0_nf_g1 (s:Procs): Bool:=bif (s.Own==(-1:Int)) then ((↑(List.length s.Waiting): Int)== (0:Int)) else false
def procStartK0.nf (s:Procs) (c:Control) (event:Int) (now:Int) (v:Procs×(List Control)×Int): Prop:=Ob (List.length s.Waiting*(120:Nat)≤(140737488355328:Nat))∧(Ob (List.length s.Pending*(64:Nat)≤(140737488355328:Nat))∧(cond (cCheck {Kind:=0,Update:=c.Update,Map:=c.Map,Instant:=0,Reason:=c.Reason,Rejected:=c.Rejected,Salt:=c.Salt,Mark:=c.Mark,Features:=c.Features,Version:=c.Version,Length:=c.Length:Control} != 0) (procStartK0.L ((s,[],cCheck {Kind:=0,Update:=c.Update,Map:=c.Map,Instant:=0,Reason:=c.Reason,Rejected:=c.Rejected,Salt:=c.Salt,Mark:=c.Mark,Features:=c.Features,Version:=c.Version,Length:=c.Length:Control})) v) (Ob (o3 (!s.Ended != 0))∧(Ob (o3 (!s.Ended != 0))∧(Ob (o3 (!s.Ended != 0))∧(Ob (o3 (!s.Ended != 0))∧(Ob (o3 (!s.Ended != 0))∧(Ob (on (s.Ended != 0))∧(cond (bif s.Ended != 0 then true else s.Own==2) (procStartK0.L ((s,[],9)) v) (Ob (o3 false)∧(Ob (on (pChanges 0))∧(Ob (o3 (!!s.Role != 1))∧(Ob (o3 (!!s.Role != 1))∧(Ob (o3 (!!s.Role != 1 && false))∧(Ob (o3 (!!s.Role != 1 && false))∧(Ob (o3 (!!s.Role != 1 && false))∧(Ob (o3 (!!s.Role != 1 && false))∧(Ob (o3 (!!s.Role != 1 && false))∧(Ob (o3 (!!s.Role != 1 && false))∧(Ob (o2 (!!s.Role != 1 && false))∧(Ob ((!!s.Role != 1 && false)= true→(s.Crypt != 0)= false→(!!s.Role != 1 && false && !s.Crypt != 0)= true)∧(Ob (o2 (!!s.Role != 1))∧(Ob ((!!s.Role != 1)= true→false=true→(!!s.Role != 1 && false)= true)∧(Ob (on (!s.Role != 1))∧(cond (bif !s.Role != 1 then true else bif (0:Int)== (3:Int) then bif s.Crypt != 0 then true else conEnc s.Waiting else false) (procStartK0.L ((s,[],9)) v) (Ob (o3 false)∧(Ob (o3 false)∧(Ob (o3 false)∧(Ob (o3 false)∧(Ob (o2 false)∧(Ob (o3 (s.Own==(-1)))∧(Ob (o3 (s.Own==(-1)))∧(Ob (o3 (s.Own==(-1)))∧(Ob (o3 (s.Own==(-1)))∧(Ob (o3 (s.Own==(-1)))∧(Ob (o3 (s.Own==(-1)))∧(Ob (o2 (s.Own==(-1)))∧(Ob (o3 (procStartK0_nf_g1 s))∧(Ob (o3 (procStartK0_nf_g1 s))∧(Ob (o3 (procStartK0_nf_g1 s))∧(Ob (o3 ((bif s.Own==(-1) then (↑(List.length s.Waiting): Int)== 0 else false) && pChanges 0))∧(Ob (o3 ((bif s.Own==(-1) then (↑(List.length s.Waiting): Int)== 0 else false) && pChanges 0))∧(Ob (o3 ((bif s.Own==(-1) then (↑(List.length s.Waiting): Int)== 0 else false) && pChanges 0))∧(Ob (o3 ((bif s.Own==(-1) then (↑(List.length s.Waiting): Int)== 0 else false) && pChanges 0))∧(Ob (o3 ((bif s.Own==(-1) then (↑(List.length s.Waiting): Int)== 0 else false) && pChanges 0))∧(Ob (o3 ((bif s.Own==(-1) then (↑(List.length s.Waiting): Int)== 0 else false) && pChanges 0))∧(Ob (o2 (procStartK0_nf_g1 s))∧(Ob ((bif s.Own==(-1) then (↑(List.length s.Waiting): Int)== 0 else false)= true→pChanges 0=true→((bif s.Own==(-1) then (↑(List.length s.Waiting): Int)== 0 else false) && pChanges 0)= true)∧(Ob (o3 (procStartK0_nf_g1 s))∧(Ob (o2 (procStartK0_nf_g1 s))∧(cond (bif bif s.Own==(-1) then (↑(List.length s.Waiting): Int)== 0 else false then !bif pChanges 0 then decide (0 < (↑(List.length s.Pending): Int)) else false else false) (Ob (List.length s.Pending≤(1099511627776:Nat))∧(Ob (o3 true)∧(Ob (o3 true)∧(Ob (o3 true)∧(Ob (o3 true)∧(Ob (o3 true)∧(Ob (o2 true)∧(cond (bif (0:Int)== (0:Int) then s.Other==15 else false) (Ob (((0:Nat)+ List.length [{Kind:=0,Update:=c.Update,Map:=c.Map,Instant:=insPlan event 0,Reason:=c.Reason,Rejected:=c.Rejected,Salt:=c.Salt,Mark:=c.Mark,Features:=c.Features,Version:=c.Version,Length:=c.Length:Control}])* (120:Nat)≤(140737488355328:Nat))∧(procStartK0.L ((({s with Own:=0,Since:=now,Other:=(-1),Pending:=(insAdd s.Pending event (pChange {Kind:=0,Update:=c.Update,Map:=c.Map,Instant:=insPlan event 0,Reason:=c.Reason,Rejected:=c.Rejected,Salt:=c.Salt,Mark:=c.Mark,Features:=c.Features,Version:=c.Version,Length:=c.Length:Control})).fst,Told:=false}: Procs),[]++ [{Kind:=0,Update:=c.Update,Map:=c.Map,Instant:=insPlan event 0,Reason:=c.Reason,Rejected:=c.Rejected,Salt:=c.Salt,Mark:=c.Mark,Features:=c.Features,Version:=c.Version,Length:=c.Length:Control}],0)) v)) (Ob (((0:Nat)+ List.length [{Kind:=0,Update:=c.Update,Map:=c.Map,Instant:=insPlan event 0,Reason:=c.Reason,Rejected:=c.Rejected,Salt:=c.Salt,Mark:=c.Mark,Features:=c.Features,Version:=c.Version,Length:=c.Length:Control}])* (120:Nat)≤(140737488355328:Nat))∧(procStartK0.L ((({s with Own:=0,Since:=now,Pending:=(insAdd s.Pending event (pChange {Kind:=0,Update:=c.Update,Map:=c.Map,Instant:=insPlan event 0,Reason:=c.Reason,Rejected:=c.Rejected,Salt:=c.Salt,Mark:=c.Mark,Features:=c.Features,Version:=c.Version,Length:=c.Length:Control})).fst,Told:=false}: Procs),[]++ [{Kind:=0,Update:=c.Update,Map:=c.Map,Instant:=insPlan event 0,Reason:=c.Reason,Rejected:=c.Rejected,Salt:=c.Salt,Mark:=c.Mark,Features:=c.Features,Version:=c.Version,Length:=c.Length:Control}],0)) v)))))))))) ((List.length s.Waiting≤(9223372036854775807:Nat))→(cond (decide (8≤(↑(List.length s.Waiting): Int))) (procStartK0.L ((s,[],8)) v) (Ob ((List.length s.Waiting+List.length [{Kind:=0,Update:=c.Update,Map:=c.Map,Instant:=0,Reason:=c.Reason,Rejected:=c.Rejected,Salt:=c.Salt,Mark:=c.Mark,Features:=c.Features,Version:=c.Version,Length:=c.Length:Control}])* (120:Nat)≤(140737488355328:Nat))∧(procStartK0.L ((({s with Waiting:=s.Waiting ++ [{Kind:=0,Update:=c.Update,Map:=c.Map,Instant:=0,Reason:=c.Reason,Rejected:=c.Rejected,Salt:=c.Salt,Mark:=c.Mark,Features:=c.Features,Version:=c.Version,Length:=c.Length:Control}]}: Procs),[],0)) v)))))))))))))))))))))))))))))))))))))))))))))))))))))))
theorem procStartK0.nf_ok (s:Procs) (c:Control) (event:Int) (now:Int) (v:Procs×(List Control)×Int): evFun (mkCxN Tryz.prog S tab_conEnc 0 [61,62]) 6 9 [Procs.av s,Control.av ({c with Kind:=(0:Int)}: Control), .v (.int .u16 event), .v (.int .i64 now)] [] (fun r' H'=>Gives r' H' (procStartK0.res v) (procStartK0.news v))= procStartK0.nf s c event now v:=by kernel_rfl
theorem procStartK0.key (s:Procs) (c:Control) (event:Int) (now:Int) (hp:s.Waiting.length≤1000∧s.Pending.length≤1000) (v:Procs×(List Control)×Int) (hv:v=procStartK0 s c event now): procStartK0.nf s c event now v:=by
 unfold procStartK0 at hv
 unfold procStartK0.nf
 refine ⟨⟨?_⟩, ?_⟩;rotate_left
 refine ⟨⟨?_⟩, ?_⟩;rotate_left
 revert hv;refine by_cond2 (fun hb hv=>?_) (fun hb hv=>?_)
 subst hv;exact ⟨rfl,rfl⟩
 iterate 5 refine ⟨⟨o3_ok _⟩, ?_⟩
 refine ⟨⟨on_ok _⟩, ?_⟩
 revert hv;refine by_cond2 (fun hb hv=>?_) (fun hb hv=>?_)
 subst hv;exact ⟨rfl,rfl⟩
 refine ⟨⟨o3_ok _⟩, ?_⟩
 refine ⟨⟨on_ok _⟩, ?_⟩
 iterate 8 refine ⟨⟨o3_ok _⟩, ?_⟩
 refine ⟨⟨o2_ok _⟩, ?_⟩
 refine ⟨⟨?_⟩, ?_⟩;rotate_left
 refine ⟨⟨o2_ok _⟩, ?_⟩
 refine ⟨⟨?_⟩, ?_⟩;rotate_left
 refine ⟨⟨on_ok _⟩, ?_⟩
 revert hv;refine by_cond2 (fun hb hv=>?_) (fun hb hv=>?_)
 subst hv;exact ⟨rfl,rfl⟩
 iterate 4 refine ⟨⟨o3_ok _⟩, ?_⟩
 refine ⟨⟨o2_ok _⟩, ?_⟩
 iterate 6 refine ⟨⟨o3_ok _⟩, ?_⟩
 refine ⟨⟨o2_ok _⟩, ?_⟩
 iterate 9 refine ⟨⟨o3_ok _⟩, ?_⟩
 refine ⟨⟨o2_ok _⟩, ?_⟩
 refine ⟨⟨?_⟩, ?_⟩;rotate_left
 refine ⟨⟨o3_ok _⟩, ?_⟩
 refine ⟨⟨o2_ok _⟩, ?_⟩
 revert hv;refine by_cond2 (fun hb hv=>?_) (fun hb hv=>?_)
 refine ⟨⟨?_⟩, ?_⟩;rotate_left
 iterate 5 refine ⟨⟨o3_ok _⟩, ?_⟩
 refine ⟨⟨o2_ok _⟩, ?_⟩
 revert hv;refine by_cond2 (fun hb hv=>?_) (fun hb hv=>?_)
 refine ⟨⟨?_⟩, ?_⟩;rotate_left
 subst hv;exact ⟨rfl,rfl⟩
 refine ⟨⟨?_⟩, ?_⟩;rotate_left
 subst hv;exact ⟨rfl,rfl⟩
 intro hlen
 revert hv;refine by_cond2 (fun hb hv=>?_) (fun hb hv=>?_)
 subst hv;exact ⟨rfl,rfl⟩
 refine ⟨⟨?_⟩, ?_⟩;rotate_left
 subst hv;exact ⟨rfl,rfl⟩
 all_goals ((try clear hv);(try clear q1 q2);(try clear hk);(first | omega | ((try simp only [decide_eq_true_eq,decide_eq_false_iff_not,Bool.not_eq_true,Bool.not_eq_false,Bool.and_eq_true,Bool.or_eq_true,Bool.not_not,cond_and,cond_or,List.length_append,List.length_cons,List.length_nil] at *);(first | done | ((first | omega | (intros;simp_all [Bool.not_not];done)))))))
def procStartK1.res (r:Procs×(List Control)×Int): AV El:=.tup [Procs.av (r.1), .sl 37 (r.2.1:List (El 37)) false, .v (.int .i64 (r.2.2))]
def procStartK1.news (r:Procs×(List Control)×Int): List (AObj El):= []
def procStartK1.L (e v:Procs×(List Control)×Int): Prop:=procStartK1.res e=procStartK1.res v∧procStartK1.news e=procStartK1.news v
def procStartK1 (s:Procs) (c:Control) (event:Int) (now:Int): Procs×(List Control)×Int:=cond (cCheck {Kind:=1,Update:=c.Update,Map:=c.Map,Instant:=0,Reason:=c.Reason,Rejected:=c.Rejected,Salt:=c.Salt,Mark:=c.Mark,Features:=c.Features,Version:=c.Version,Length:=c.Length:Control} != 0) ((s,[],cCheck {Kind:=1,Update:=c.Update,Map:=c.Map,Instant:=0,Reason:=c.Reason,Rejected:=c.Rejected,Salt:=c.Salt,Mark:=c.Mark,Features:=c.Features,Version:=c.Version,Length:=c.Length:Control})) (cond (bif s.Ended != 0 then true else s.Own==2) ((s,[],9)) (cond (bif !s.Role != 1 then true else bif (1:Int)== (3:Int) then bif s.Crypt != 0 then true else conEnc s.Waiting else false) ((s,[],9)) (cond (bif bif s.Own==(-1) then (↑(List.length s.Waiting): Int)== 0 else false then !bif pChanges 1 then decide (0 < (↑(List.length s.Pending): Int)) else false else false) ((({s with Own:=1,Since:=now,Pending:=(insAdd s.Pending event (pChange {Kind:=1,Update:=c.Update,Map:=c.Map,Instant:=insPlan event 0,Reason:=c.Reason,Rejected:=c.Rejected,Salt:=c.Salt,Mark:=c.Mark,Features:=c.Features,Version:=c.Version,Length:=c.Length:Control})).fst,Told:=false}: Procs),[]++ [{Kind:=1,Update:=c.Update,Map:=c.Map,Instant:=insPlan event 0,Reason:=c.Reason,Rejected:=c.Rejected,Salt:=c.Salt,Mark:=c.Mark,Features:=c.Features,Version:=c.Version,Length:=c.Length:Control}],0)) (cond (decide (8≤(↑(List.length s.Waiting): Int))) ((s,[],8)) ((({s with Waiting:=s.Waiting ++ [{Kind:=1,Update:=c.Update,Map:=c.Map,Instant:=0,Reason:=c.Reason,Rejected:=c.Rejected,Salt:=c.Salt,Mark:=c.Mark,Features:=c.Features,Version:=c.Version,Length:=c.Length:Control}]}: Procs),[],0))))))
def procStartK1_nf_g1 (s:Procs): Bool:=bif (s.Own==(-1:Int)) then ((↑(List.length s.Waiting): Int)== (0:Int)) else false
def procStartK1.nf (s:Procs) (c:Control) (event:Int) (now:Int) (v:Procs×(List Control)×Int): Prop:=Ob (List.length s.Waiting*(120:Nat)≤(140737488355328:Nat))∧(Ob (List.length s.Pending*(64:Nat)≤(140737488355328:Nat))∧(cond (cCheck {Kind:=1,Update:=c.Update,Map:=c.Map,Instant:=0,Reason:=c.Reason,Rejected:=c.Rejected,Salt:=c.Salt,Mark:=c.Mark,Features:=c.Features,Version:=c.Version,Length:=c.Length:Control} != 0) (procStartK1.L ((s,[],cCheck {Kind:=1,Update:=c.Update,Map:=c.Map,Instant:=0,Reason:=c.Reason,Rejected:=c.Rejected,Salt:=c.Salt,Mark:=c.Mark,Features:=c.Features,Version:=c.Version,Length:=c.Length:Control})) v) (Ob (o3 (!s.Ended != 0))∧(Ob (o3 (!s.Ended != 0))∧(Ob (o3 (!s.Ended != 0))∧(Ob (o3 (!s.Ended != 0))∧(Ob (o3 (!s.Ended != 0))∧(Ob (on (s.Ended != 0))∧(cond (bif s.Ended != 0 then true else s.Own==2) (procStartK1.L ((s,[],9)) v) (Ob (o3 false)∧(Ob (on (pChanges 1))∧(Ob (o3 (!!s.Role != 1))∧(Ob (o3 (!!s.Role != 1))∧(Ob (o3 (!!s.Role != 1 && false))∧(Ob (o3 (!!s.Role != 1 && false))∧(Ob (o3 (!!s.Role != 1 && false))∧(Ob (o3 (!!s.Role != 1 && false))∧(Ob (o3 (!!s.Role != 1 && false))∧(Ob (o3 (!!s.Role != 1 && false))∧(Ob (o2 (!!s.Role != 1 && false))∧(Ob ((!!s.Role != 1 && false)= true→(s.Crypt != 0)= false→(!!s.Role != 1 && false && !s.Crypt != 0)= true)∧(Ob (o2 (!!s.Role != 1))∧(Ob ((!!s.Role != 1)= true→false=true→(!!s.Role != 1 && false)= true)∧(Ob (on (!s.Role != 1))∧(cond (bif !s.Role != 1 then true else bif (1:Int)== (3:Int) then bif s.Crypt != 0 then true else conEnc s.Waiting else false) (procStartK1.L ((s,[],9)) v) (Ob (o3 false)∧(Ob (o3 false)∧(Ob (o3 false)∧(Ob (o3 false)∧(Ob (o2 false)∧(Ob (o3 (s.Own==(-1)))∧(Ob (o3 (s.Own==(-1)))∧(Ob (o3 (s.Own==(-1)))∧(Ob (o3 (s.Own==(-1)))∧(Ob (o3 (s.Own==(-1)))∧(Ob (o3 (s.Own==(-1)))∧(Ob (o2 (s.Own==(-1)))∧(Ob (o3 (procStartK1_nf_g1 s))∧(Ob (o3 (procStartK1_nf_g1 s))∧(Ob (o3 (procStartK1_nf_g1 s))∧(Ob (o3 ((bif s.Own==(-1) then (↑(List.length s.Waiting): Int)== 0 else false) && pChanges 1))∧(Ob (o3 ((bif s.Own==(-1) then (↑(List.length s.Waiting): Int)== 0 else false) && pChanges 1))∧(Ob (o3 ((bif s.Own==(-1) then (↑(List.length s.Waiting): Int)== 0 else false) && pChanges 1))∧(Ob (o3 ((bif s.Own==(-1) then (↑(List.length s.Waiting): Int)== 0 else false) && pChanges 1))∧(Ob (o3 ((bif s.Own==(-1) then (↑(List.length s.Waiting): Int)== 0 else false) && pChanges 1))∧(Ob (o3 ((bif s.Own==(-1) then (↑(List.length s.Waiting): Int)== 0 else false) && pChanges 1))∧(Ob (o2 (procStartK1_nf_g1 s))∧(Ob ((bif s.Own==(-1) then (↑(List.length s.Waiting): Int)== 0 else false)= true→pChanges 1=true→((bif s.Own==(-1) then (↑(List.length s.Waiting): Int)== 0 else false) && pChanges 1)= true)∧(Ob (o3 (procStartK1_nf_g1 s))∧(Ob (o2 (procStartK1_nf_g1 s))∧(cond (bif bif s.Own==(-1) then (↑(List.length s.Waiting): Int)== 0 else false then !bif pChanges 1 then decide (0 < (↑(List.length s.Pending): Int)) else false else false) (Ob (List.length s.Pending≤(1099511627776:Nat))∧(Ob (o3 false)∧(Ob (o3 false)∧(Ob (o3 false)∧(Ob (o3 false)∧(Ob (o3 false)∧(Ob (o2 false)∧(Ob (((0:Nat)+ List.length [{Kind:=1,Update:=c.Update,Map:=c.Map,Instant:=insPlan event 0,Reason:=c.Reason,Rejected:=c.Rejected,Salt:=c.Salt,Mark:=c.Mark,Features:=c.Features,Version:=c.Version,Length:=c.Length:Control}])* (120:Nat)≤(140737488355328:Nat))∧(procStartK1.L ((({s with Own:=1,Since:=now,Pending:=(insAdd s.Pending event (pChange {Kind:=1,Update:=c.Update,Map:=c.Map,Instant:=insPlan event 0,Reason:=c.Reason,Rejected:=c.Rejected,Salt:=c.Salt,Mark:=c.Mark,Features:=c.Features,Version:=c.Version,Length:=c.Length:Control})).fst,Told:=false}: Procs),[]++ [{Kind:=1,Update:=c.Update,Map:=c.Map,Instant:=insPlan event 0,Reason:=c.Reason,Rejected:=c.Rejected,Salt:=c.Salt,Mark:=c.Mark,Features:=c.Features,Version:=c.Version,Length:=c.Length:Control}],0)) v))))))))) ((List.length s.Waiting≤(9223372036854775807:Nat))→(cond (decide (8≤(↑(List.length s.Waiting): Int))) (procStartK1.L ((s,[],8)) v) (Ob ((List.length s.Waiting+List.length [{Kind:=1,Update:=c.Update,Map:=c.Map,Instant:=0,Reason:=c.Reason,Rejected:=c.Rejected,Salt:=c.Salt,Mark:=c.Mark,Features:=c.Features,Version:=c.Version,Length:=c.Length:Control}])* (120:Nat)≤(140737488355328:Nat))∧(procStartK1.L ((({s with Waiting:=s.Waiting ++ [{Kind:=1,Update:=c.Update,Map:=c.Map,Instant:=0,Reason:=c.Reason,Rejected:=c.Rejected,Salt:=c.Salt,Mark:=c.Mark,Features:=c.Features,Version:=c.Version,Length:=c.Length:Control}]}: Procs),[],0)) v)))))))))))))))))))))))))))))))))))))))))))))))))))))))
theorem procStartK1.nf_ok (s:Procs) (c:Control) (event:Int) (now:Int) (v:Procs×(List Control)×Int): evFun (mkCxN Tryz.prog S tab_conEnc 0 [61,62]) 6 9 [Procs.av s,Control.av ({c with Kind:=(1:Int)}: Control), .v (.int .u16 event), .v (.int .i64 now)] [] (fun r' H'=>Gives r' H' (procStartK1.res v) (procStartK1.news v))= procStartK1.nf s c event now v:=by kernel_rfl
theorem procStartK1.key (s:Procs) (c:Control) (event:Int) (now:Int) (hp:s.Waiting.length≤1000∧s.Pending.length≤1000) (v:Procs×(List Control)×Int) (hv:v=procStartK1 s c event now): procStartK1.nf s c event now v:=by
 unfold procStartK1 at hv
 unfold procStartK1.nf
 refine ⟨⟨?_⟩, ?_⟩;rotate_left
 refine ⟨⟨?_⟩, ?_⟩;rotate_left
 revert hv;refine by_cond2 (fun hb hv=>?_) (fun hb hv=>?_)
 subst hv;exact ⟨rfl,rfl⟩
 iterate 5 refine ⟨⟨o3_ok _⟩, ?_⟩
 refine ⟨⟨on_ok _⟩, ?_⟩
 revert hv;refine by_cond2 (fun hb hv=>?_) (fun hb hv=>?_)
 subst hv;exact ⟨rfl,rfl⟩
 refine ⟨⟨o3_ok _⟩, ?_⟩
 refine ⟨⟨on_ok _⟩, ?_⟩
 iterate 8 refine ⟨⟨o3_ok _⟩, ?_⟩
 refine ⟨⟨o2_ok _⟩, ?_⟩
 refine ⟨⟨?_⟩, ?_⟩;rotate_left
 refine ⟨⟨o2_ok _⟩, ?_⟩
 refine ⟨⟨?_⟩, ?_⟩;rotate_left
 refine ⟨⟨on_ok _⟩, ?_⟩
 revert hv;refine by_cond2 (fun hb hv=>?_) (fun hb hv=>?_)
 subst hv;exact ⟨rfl,rfl⟩
 iterate 4 refine ⟨⟨o3_ok _⟩, ?_⟩
 refine ⟨⟨o2_ok _⟩, ?_⟩
 iterate 6 refine ⟨⟨o3_ok _⟩, ?_⟩
 refine ⟨⟨o2_ok _⟩, ?_⟩
 iterate 9 refine ⟨⟨o3_ok _⟩, ?_⟩
 refine ⟨⟨o2_ok _⟩, ?_⟩
 refine ⟨⟨?_⟩, ?_⟩;rotate_left
 refine ⟨⟨o3_ok _⟩, ?_⟩
 refine ⟨⟨o2_ok _⟩, ?_⟩
 revert hv;refine by_cond2 (fun hb hv=>?_) (fun hb hv=>?_)
 refine ⟨⟨?_⟩, ?_⟩;rotate_left
 iterate 5 refine ⟨⟨o3_ok _⟩, ?_⟩
 refine ⟨⟨o2_ok _⟩, ?_⟩
 refine ⟨⟨?_⟩, ?_⟩;rotate_left
 subst hv;exact ⟨rfl,rfl⟩
 intro hlen
 revert hv;refine by_cond2 (fun hb hv=>?_) (fun hb hv=>?_)
 subst hv;exact ⟨rfl,rfl⟩
 refine ⟨⟨?_⟩, ?_⟩;rotate_left
 subst hv;exact ⟨rfl,rfl⟩
 all_goals ((try clear hv);(try clear q1 q2);(try clear hk);(first | omega | ((try simp only [decide_eq_true_eq,decide_eq_false_iff_not,Bool.not_eq_true,Bool.not_eq_false,Bool.and_eq_true,Bool.or_eq_true,Bool.not_not,cond_and,cond_or,List.length_append,List.length_cons,List.length_nil] at *);(first | done | ((first | omega | (intros;simp_all [Bool.not_not];done)))))))
def procStartK2.res (r:Procs×(List Control)×Int): AV El:=.tup [Procs.av (r.1), .sl 37 (r.2.1:List (El 37)) false, .v (.int .i64 (r.2.2))]
def procStartK2.news (r:Procs×(List Control)×Int): List (AObj El):= []
def procStartK2.L (e v:Procs×(List Control)×Int): Prop:=procStartK2.res e=procStartK2.res v∧procStartK2.news e=procStartK2.news v
def procStartK2 (s:Procs) (c:Control) (event:Int) (now:Int): Procs×(List Control)×Int:=cond (cCheck {Kind:=2,Update:=c.Update,Map:=c.Map,Instant:=c.Instant,Reason:=c.Reason,Rejected:=c.Rejected,Salt:=c.Salt,Mark:=c.Mark,Features:=c.Features,Version:=c.Version,Length:=c.Length:Control} != 0) ((s,[],cCheck {Kind:=2,Update:=c.Update,Map:=c.Map,Instant:=c.Instant,Reason:=c.Reason,Rejected:=c.Rejected,Salt:=c.Salt,Mark:=c.Mark,Features:=c.Features,Version:=c.Version,Length:=c.Length:Control})) (cond (bif s.Ended != 0 then true else s.Own==2) ((s,[],9)) ((({s with Own:=2,Since:=now,Waiting:=[]}: Procs),[]++ [{Kind:=2,Update:=c.Update,Map:=c.Map,Instant:=c.Instant,Reason:=c.Reason,Rejected:=c.Rejected,Salt:=c.Salt,Mark:=c.Mark,Features:=c.Features,Version:=c.Version,Length:=c.Length:Control}],0)))
def procStartK2.nf (s:Procs) (c:Control) (event:Int) (now:Int) (v:Procs×(List Control)×Int): Prop:=Ob (List.length s.Waiting*(120:Nat)≤(140737488355328:Nat))∧(Ob (List.length s.Pending*(64:Nat)≤(140737488355328:Nat))∧(cond (cCheck {Kind:=2,Update:=c.Update,Map:=c.Map,Instant:=c.Instant,Reason:=c.Reason,Rejected:=c.Rejected,Salt:=c.Salt,Mark:=c.Mark,Features:=c.Features,Version:=c.Version,Length:=c.Length:Control} != 0) (procStartK2.L ((s,[],cCheck {Kind:=2,Update:=c.Update,Map:=c.Map,Instant:=c.Instant,Reason:=c.Reason,Rejected:=c.Rejected,Salt:=c.Salt,Mark:=c.Mark,Features:=c.Features,Version:=c.Version,Length:=c.Length:Control})) v) (Ob (o3 (!s.Ended != 0))∧(Ob (o3 (!s.Ended != 0))∧(Ob (o3 (!s.Ended != 0))∧(Ob (o3 (!s.Ended != 0))∧(Ob (o3 (!s.Ended != 0))∧(Ob (on (s.Ended != 0))∧(cond (bif s.Ended != 0 then true else s.Own==2) (procStartK2.L ((s,[],9)) v) (Ob (o3 (true))∧(Ob (on (pChanges 2))∧(Ob (o3 (false))∧(Ob (o3 (false))∧(Ob (o3 (false))∧(Ob (o3 (false))∧(Ob (o2 (false))∧(Ob (((0:Nat)+ List.length [{Kind:=2,Update:=c.Update,Map:=c.Map,Instant:=c.Instant,Reason:=c.Reason,Rejected:=c.Rejected,Salt:=c.Salt,Mark:=c.Mark,Features:=c.Features,Version:=c.Version,Length:=c.Length:Control}])* (120:Nat)≤(140737488355328:Nat))∧(procStartK2.L ((({s with Own:=2,Since:=now,Waiting:=[]}: Procs),[]++ [{Kind:=2,Update:=c.Update,Map:=c.Map,Instant:=c.Instant,Reason:=c.Reason,Rejected:=c.Rejected,Salt:=c.Salt,Mark:=c.Mark,Features:=c.Features,Version:=c.Version,Length:=c.Length:Control}],0)) v))))))))))))))))))
theorem procStartK2.nf_ok (s:Procs) (c:Control) (event:Int) (now:Int) (v:Procs×(List Control)×Int): evFun (mkCxN Tryz.prog S tab_conEnc 0 [61,62]) 6 9 [Procs.av s,Control.av ({c with Kind:=(2:Int)}: Control), .v (.int .u16 event), .v (.int .i64 now)] [] (fun r' H'=>Gives r' H' (procStartK2.res v) (procStartK2.news v))= procStartK2.nf s c event now v:=by kernel_rfl
theorem procStartK2.key (s:Procs) (c:Control) (event:Int) (now:Int) (hp:s.Waiting.length≤1000∧s.Pending.length≤1000) (v:Procs×(List Control)×Int) (hv:v=procStartK2 s c event now): procStartK2.nf s c event now v:=by
 unfold procStartK2 at hv
 unfold procStartK2.nf
 refine ⟨⟨?_⟩, ?_⟩;rotate_left
 refine ⟨⟨?_⟩, ?_⟩;rotate_left
 revert hv;refine by_cond2 (fun hb hv=>?_) (fun hb hv=>?_)
 subst hv;exact ⟨rfl,rfl⟩
 iterate 5 refine ⟨⟨o3_ok _⟩, ?_⟩
 refine ⟨⟨on_ok _⟩, ?_⟩
 revert hv;refine by_cond2 (fun hb hv=>?_) (fun hb hv=>?_)
 subst hv;exact ⟨rfl,rfl⟩
 refine ⟨⟨o3_ok _⟩, ?_⟩
 refine ⟨⟨on_ok _⟩, ?_⟩
 iterate 4 refine ⟨⟨o3_ok _⟩, ?_⟩
 refine ⟨⟨o2_ok _⟩, ?_⟩
 refine ⟨⟨?_⟩, ?_⟩;rotate_left
 subst hv;exact ⟨rfl,rfl⟩
 all_goals ((try clear hv);(try clear q1 q2);(try clear hk);(first | omega | ((try simp only [decide_eq_true_eq,decide_eq_false_iff_not,Bool.not_eq_true,Bool.not_eq_false,Bool.and_eq_true,Bool.or_eq_true,Bool.not_not,cond_and,cond_or,List.length_append,List.length_cons,List.length_nil] at *);(first | done | ((omega))))))
def procStartK3.res (r:Procs×(List Control)×Int): AV El:=.tup [Procs.av (r.1), .sl 37 (r.2.1:List (El 37)) false, .v (.int .i64 (r.2.2))]
def procStartK3.news (r:Procs×(List Control)×Int): List (AObj El):= []
def procStartK3.L (e v:Procs×(List Control)×Int): Prop:=procStartK3.res e=procStartK3.res v∧procStartK3.news e=procStartK3.news v
def procStartK3 (s:Procs) (c:Control) (event:Int) (now:Int): Procs×(List Control)×Int:=cond (cCheck {Kind:=3,Update:=c.Update,Map:=c.Map,Instant:=c.Instant,Reason:=c.Reason,Rejected:=c.Rejected,Salt:=c.Salt,Mark:=c.Mark,Features:=c.Features,Version:=c.Version,Length:=c.Length:Control} != 0) ((s,[],cCheck {Kind:=3,Update:=c.Update,Map:=c.Map,Instant:=c.Instant,Reason:=c.Reason,Rejected:=c.Rejected,Salt:=c.Salt,Mark:=c.Mark,Features:=c.Features,Version:=c.Version,Length:=c.Length:Control})) (cond (bif s.Ended != 0 then true else s.Own==2) ((s,[],9)) (cond (bif !s.Role != 1 then true else bif (3:Int)== (3:Int) then bif s.Crypt != 0 then true else conEnc s.Waiting else false) ((s,[],9)) (cond (bif bif s.Own==(-1) then (↑(List.length s.Waiting): Int)== 0 else false then !bif pChanges 3 then decide (0 < (↑(List.length s.Pending): Int)) else false else false) ((({s with Own:=3,Since:=now,Salt:=c.Salt,Mark:=c.Mark,Crypt:=1}: Procs),[]++ [{Kind:=3,Update:=c.Update,Map:=c.Map,Instant:=c.Instant,Reason:=c.Reason,Rejected:=c.Rejected,Salt:=c.Salt,Mark:=c.Mark,Features:=c.Features,Version:=c.Version,Length:=c.Length:Control}],0)) (cond (decide (8≤(↑(List.length s.Waiting): Int))) ((s,[],8)) ((({s with Waiting:=s.Waiting ++ [{Kind:=3,Update:=c.Update,Map:=c.Map,Instant:=c.Instant,Reason:=c.Reason,Rejected:=c.Rejected,Salt:=c.Salt,Mark:=c.Mark,Features:=c.Features,Version:=c.Version,Length:=c.Length:Control}]}: Procs),[],0))))))
def procStartK3_nf_g1 (s:Procs): Bool:=bif (s.Own==(-1:Int)) then ((↑(List.length s.Waiting): Int)== (0:Int)) else false
def procStartK3.nf (s:Procs) (c:Control) (event:Int) (now:Int) (v:Procs×(List Control)×Int): Prop:=Ob (List.length s.Waiting*(120:Nat)≤(140737488355328:Nat))∧(Ob (List.length s.Pending*(64:Nat)≤(140737488355328:Nat))∧(cond (cCheck {Kind:=3,Update:=c.Update,Map:=c.Map,Instant:=c.Instant,Reason:=c.Reason,Rejected:=c.Rejected,Salt:=c.Salt,Mark:=c.Mark,Features:=c.Features,Version:=c.Version,Length:=c.Length:Control} != 0) (procStartK3.L ((s,[],cCheck {Kind:=3,Update:=c.Update,Map:=c.Map,Instant:=c.Instant,Reason:=c.Reason,Rejected:=c.Rejected,Salt:=c.Salt,Mark:=c.Mark,Features:=c.Features,Version:=c.Version,Length:=c.Length:Control})) v) (Ob (o3 (!s.Ended != 0))∧(Ob (o3 (!s.Ended != 0))∧(Ob (o3 (!s.Ended != 0))∧(Ob (o3 (!s.Ended != 0))∧(Ob (o3 (!s.Ended != 0))∧(Ob (on (s.Ended != 0))∧(cond (bif s.Ended != 0 then true else s.Own==2) (procStartK3.L ((s,[],9)) v) (Ob (o3 true)∧(Ob (on (pChanges 3))∧(Ob (o3 (!!s.Role != 1))∧(Ob (o3 (!!s.Role != 1))∧(Ob (o3 (!!s.Role != 1 && true))∧(Ob (o3 (!!s.Role != 1 && true))∧(Ob (o3 (!!s.Role != 1 && true))∧(Ob (o3 (!!s.Role != 1 && true))∧(Ob (o3 (!!s.Role != 1 && true))∧(Ob (o3 (!!s.Role != 1 && true))∧(Ob (o2 (!!s.Role != 1 && true))∧(Ob ((!!s.Role != 1 && true)= true→(s.Crypt != 0)= false→(!!s.Role != 1 && true && !s.Crypt != 0)= true)∧(Ob (o2 (!!s.Role != 1))∧(Ob ((!!s.Role != 1)= true→true=true→(!!s.Role != 1 && true)= true)∧(Ob (on (!s.Role != 1))∧(cond (bif !s.Role != 1 then true else bif (3:Int)== (3:Int) then bif s.Crypt != 0 then true else conEnc s.Waiting else false) (procStartK3.L ((s,[],9)) v) (Ob (o3 false)∧(Ob (o3 false)∧(Ob (o3 false)∧(Ob (o3 false)∧(Ob (o2 false)∧(Ob (o3 (s.Own==(-1)))∧(Ob (o3 (s.Own==(-1)))∧(Ob (o3 (s.Own==(-1)))∧(Ob (o3 (s.Own==(-1)))∧(Ob (o3 (s.Own==(-1)))∧(Ob (o3 (s.Own==(-1)))∧(Ob (o2 (s.Own==(-1)))∧(Ob (o3 (procStartK3_nf_g1 s))∧(Ob (o3 (procStartK3_nf_g1 s))∧(Ob (o3 (procStartK3_nf_g1 s))∧(Ob (o3 ((bif s.Own==(-1) then (↑(List.length s.Waiting): Int)== 0 else false) && pChanges 3))∧(Ob (o3 ((bif s.Own==(-1) then (↑(List.length s.Waiting): Int)== 0 else false) && pChanges 3))∧(Ob (o3 ((bif s.Own==(-1) then (↑(List.length s.Waiting): Int)== 0 else false) && pChanges 3))∧(Ob (o3 ((bif s.Own==(-1) then (↑(List.length s.Waiting): Int)== 0 else false) && pChanges 3))∧(Ob (o3 ((bif s.Own==(-1) then (↑(List.length s.Waiting): Int)== 0 else false) && pChanges 3))∧(Ob (o3 ((bif s.Own==(-1) then (↑(List.length s.Waiting): Int)== 0 else false) && pChanges 3))∧(Ob (o2 (procStartK3_nf_g1 s))∧(Ob ((bif s.Own==(-1) then (↑(List.length s.Waiting): Int)== 0 else false)= true→pChanges 3=true→((bif s.Own==(-1) then (↑(List.length s.Waiting): Int)== 0 else false) && pChanges 3)= true)∧(Ob (o3 (procStartK3_nf_g1 s))∧(Ob (o2 (procStartK3_nf_g1 s))∧(cond (bif bif s.Own==(-1) then (↑(List.length s.Waiting): Int)== 0 else false then !bif pChanges 3 then decide (0 < (↑(List.length s.Pending): Int)) else false else false) (Ob (((0:Nat)+ List.length [{Kind:=3,Update:=c.Update,Map:=c.Map,Instant:=c.Instant,Reason:=c.Reason,Rejected:=c.Rejected,Salt:=c.Salt,Mark:=c.Mark,Features:=c.Features,Version:=c.Version,Length:=c.Length:Control}])* (120:Nat)≤(140737488355328:Nat))∧(procStartK3.L ((({s with Own:=3,Since:=now,Salt:=c.Salt,Mark:=c.Mark,Crypt:=1}: Procs),[]++ [{Kind:=3,Update:=c.Update,Map:=c.Map,Instant:=c.Instant,Reason:=c.Reason,Rejected:=c.Rejected,Salt:=c.Salt,Mark:=c.Mark,Features:=c.Features,Version:=c.Version,Length:=c.Length:Control}],0)) v)) ((List.length s.Waiting≤(9223372036854775807:Nat))→(cond (decide (8≤(↑(List.length s.Waiting): Int))) (procStartK3.L ((s,[],8)) v) (Ob ((List.length s.Waiting+List.length [{Kind:=3,Update:=c.Update,Map:=c.Map,Instant:=c.Instant,Reason:=c.Reason,Rejected:=c.Rejected,Salt:=c.Salt,Mark:=c.Mark,Features:=c.Features,Version:=c.Version,Length:=c.Length:Control}])* (120:Nat)≤(140737488355328:Nat))∧(procStartK3.L ((({s with Waiting:=s.Waiting ++ [{Kind:=3,Update:=c.Update,Map:=c.Map,Instant:=c.Instant,Reason:=c.Reason,Rejected:=c.Rejected,Salt:=c.Salt,Mark:=c.Mark,Features:=c.Features,Version:=c.Version,Length:=c.Length:Control}]}: Procs),[],0)) v)))))))))))))))))))))))))))))))))))))))))))))))))))))))
theorem procStartK3.nf_ok (s:Procs) (c:Control) (event:Int) (now:Int) (v:Procs×(List Control)×Int): evFun (mkCxN Tryz.prog S tab_conEnc 0 [61,62]) 6 9 [Procs.av s,Control.av ({c with Kind:=(3:Int)}: Control), .v (.int .u16 event), .v (.int .i64 now)] [] (fun r' H'=>Gives r' H' (procStartK3.res v) (procStartK3.news v))= procStartK3.nf s c event now v:=by kernel_rfl
theorem procStartK3.key (s:Procs) (c:Control) (event:Int) (now:Int) (hp:s.Waiting.length≤1000∧s.Pending.length≤1000) (v:Procs×(List Control)×Int) (hv:v=procStartK3 s c event now): procStartK3.nf s c event now v:=by
 unfold procStartK3 at hv
 unfold procStartK3.nf
 refine ⟨⟨?_⟩, ?_⟩;rotate_left
 refine ⟨⟨?_⟩, ?_⟩;rotate_left
 revert hv;refine by_cond2 (fun hb hv=>?_) (fun hb hv=>?_)
 subst hv;exact ⟨rfl,rfl⟩
 iterate 5 refine ⟨⟨o3_ok _⟩, ?_⟩
 refine ⟨⟨on_ok _⟩, ?_⟩
 revert hv;refine by_cond2 (fun hb hv=>?_) (fun hb hv=>?_)
 subst hv;exact ⟨rfl,rfl⟩
 refine ⟨⟨o3_ok _⟩, ?_⟩
 refine ⟨⟨on_ok _⟩, ?_⟩
 iterate 8 refine ⟨⟨o3_ok _⟩, ?_⟩
 refine ⟨⟨o2_ok _⟩, ?_⟩
 refine ⟨⟨?_⟩, ?_⟩;rotate_left
 refine ⟨⟨o2_ok _⟩, ?_⟩
 refine ⟨⟨?_⟩, ?_⟩;rotate_left
 refine ⟨⟨on_ok _⟩, ?_⟩
 revert hv;refine by_cond2 (fun hb hv=>?_) (fun hb hv=>?_)
 subst hv;exact ⟨rfl,rfl⟩
 iterate 4 refine ⟨⟨o3_ok _⟩, ?_⟩
 refine ⟨⟨o2_ok _⟩, ?_⟩
 iterate 6 refine ⟨⟨o3_ok _⟩, ?_⟩
 refine ⟨⟨o2_ok _⟩, ?_⟩
 iterate 9 refine ⟨⟨o3_ok _⟩, ?_⟩
 refine ⟨⟨o2_ok _⟩, ?_⟩
 refine ⟨⟨?_⟩, ?_⟩;rotate_left
 refine ⟨⟨o3_ok _⟩, ?_⟩
 refine ⟨⟨o2_ok _⟩, ?_⟩
 revert hv;refine by_cond2 (fun hb hv=>?_) (fun hb hv=>?_)
 refine ⟨⟨?_⟩, ?_⟩;rotate_left
 subst hv;exact ⟨rfl,rfl⟩
 intro hlen
 revert hv;refine by_cond2 (fun hb hv=>?_) (fun hb hv=>?_)
 subst hv;exact ⟨rfl,rfl⟩
 refine ⟨⟨?_⟩, ?_⟩;rotate_left
 subst hv;exact ⟨rfl,rfl⟩
 all_goals ((try clear hv);(try clear q1 q2);(try clear hk);(first | omega | ((try simp only [decide_eq_true_eq,decide_eq_false_iff_not,Bool.not_eq_true,Bool.not_eq_false,Bool.and_eq_true,Bool.or_eq_true,Bool.not_not,cond_and,cond_or,List.length_append,List.length_cons,List.length_nil] at *);(first | done | ((first | omega | (intros;simp_all [Bool.not_not];done)))))))
def procStartK8.res (r:Procs×(List Control)×Int): AV El:=.tup [Procs.av (r.1), .sl 37 (r.2.1:List (El 37)) false, .v (.int .i64 (r.2.2))]
def procStartK8.news (r:Procs×(List Control)×Int): List (AObj El):= []
def procStartK8.L (e v:Procs×(List Control)×Int): Prop:=procStartK8.res e=procStartK8.res v∧procStartK8.news e=procStartK8.news v
def procStartK8 (s:Procs) (c:Control) (event:Int) (now:Int): Procs×(List Control)×Int:=cond (cCheck {Kind:=8,Update:=c.Update,Map:=c.Map,Instant:=c.Instant,Reason:=c.Reason,Rejected:=c.Rejected,Salt:=c.Salt,Mark:=c.Mark,Features:=s.Features,Version:=c.Version,Length:=c.Length:Control} != 0) ((s,[],cCheck {Kind:=8,Update:=c.Update,Map:=c.Map,Instant:=c.Instant,Reason:=c.Reason,Rejected:=c.Rejected,Salt:=c.Salt,Mark:=c.Mark,Features:=s.Features,Version:=c.Version,Length:=c.Length:Control})) (cond (bif s.Ended != 0 then true else s.Own==2) ((s,[],9)) (cond (bif bif s.Own==(-1) then (↑(List.length s.Waiting): Int)== 0 else false then !bif pChanges 8 then decide (0 < (↑(List.length s.Pending): Int)) else false else false) ((({s with Own:=8,Since:=now}: Procs),[]++ [{Kind:=8,Update:=c.Update,Map:=c.Map,Instant:=c.Instant,Reason:=c.Reason,Rejected:=c.Rejected,Salt:=c.Salt,Mark:=c.Mark,Features:=s.Features,Version:=c.Version,Length:=c.Length:Control}],0)) (cond (decide (8≤(↑(List.length s.Waiting): Int))) ((s,[],8)) ((({s with Waiting:=s.Waiting ++ [{Kind:=8,Update:=c.Update,Map:=c.Map,Instant:=c.Instant,Reason:=c.Reason,Rejected:=c.Rejected,Salt:=c.Salt,Mark:=c.Mark,Features:=s.Features,Version:=c.Version,Length:=c.Length:Control}]}: Procs),[],0)))))
def procStartK8_nf_g1 (s:Procs): Bool:=bif (s.Own==(-1:Int)) then ((↑(List.length s.Waiting): Int)== (0:Int)) else false
def procStartK8.nf (s:Procs) (c:Control) (event:Int) (now:Int) (v:Procs×(List Control)×Int): Prop:=Ob (List.length s.Waiting*(120:Nat)≤(140737488355328:Nat))∧(Ob (List.length s.Pending*(64:Nat)≤(140737488355328:Nat))∧(cond (cCheck {Kind:=8,Update:=c.Update,Map:=c.Map,Instant:=c.Instant,Reason:=c.Reason,Rejected:=c.Rejected,Salt:=c.Salt,Mark:=c.Mark,Features:=s.Features,Version:=c.Version,Length:=c.Length:Control} != 0) (procStartK8.L ((s,[],cCheck {Kind:=8,Update:=c.Update,Map:=c.Map,Instant:=c.Instant,Reason:=c.Reason,Rejected:=c.Rejected,Salt:=c.Salt,Mark:=c.Mark,Features:=s.Features,Version:=c.Version,Length:=c.Length:Control})) v) (Ob (o3 (!s.Ended != 0))∧(Ob (o3 (!s.Ended != 0))∧(Ob (o3 (!s.Ended != 0))∧(Ob (o3 (!s.Ended != 0))∧(Ob (o3 (!s.Ended != 0))∧(Ob (on (s.Ended != 0))∧(cond (bif s.Ended != 0 then true else s.Own==2) (procStartK8.L ((s,[],9)) v) (Ob (o3 true)∧(Ob (on (pChanges 8))∧(Ob (o3 false)∧(Ob (o3 false)∧(Ob (o3 false)∧(Ob (o3 false)∧(Ob (o2 false)∧(Ob (o3 (s.Own==(-1)))∧(Ob (o3 (s.Own==(-1)))∧(Ob (o3 (s.Own==(-1)))∧(Ob (o3 (s.Own==(-1)))∧(Ob (o3 (s.Own==(-1)))∧(Ob (o3 (s.Own==(-1)))∧(Ob (o2 (s.Own==(-1)))∧(Ob (o3 (procStartK8_nf_g1 s))∧(Ob (o3 (procStartK8_nf_g1 s))∧(Ob (o3 (procStartK8_nf_g1 s))∧(Ob (o3 ((bif s.Own==(-1) then (↑(List.length s.Waiting): Int)== 0 else false) && pChanges 8))∧(Ob (o3 ((bif s.Own==(-1) then (↑(List.length s.Waiting): Int)== 0 else false) && pChanges 8))∧(Ob (o3 ((bif s.Own==(-1) then (↑(List.length s.Waiting): Int)== 0 else false) && pChanges 8))∧(Ob (o3 ((bif s.Own==(-1) then (↑(List.length s.Waiting): Int)== 0 else false) && pChanges 8))∧(Ob (o3 ((bif s.Own==(-1) then (↑(List.length s.Waiting): Int)== 0 else false) && pChanges 8))∧(Ob (o3 ((bif s.Own==(-1) then (↑(List.length s.Waiting): Int)== 0 else false) && pChanges 8))∧(Ob (o2 (procStartK8_nf_g1 s))∧(Ob ((bif s.Own==(-1) then (↑(List.length s.Waiting): Int)== 0 else false)= true→pChanges 8=true→((bif s.Own==(-1) then (↑(List.length s.Waiting): Int)== 0 else false) && pChanges 8)= true)∧(Ob (o3 (procStartK8_nf_g1 s))∧(Ob (o2 (procStartK8_nf_g1 s))∧(cond (bif bif s.Own==(-1) then (↑(List.length s.Waiting): Int)== 0 else false then !bif pChanges 8 then decide (0 < (↑(List.length s.Pending): Int)) else false else false) (Ob (((0:Nat)+ List.length [{Kind:=8,Update:=c.Update,Map:=c.Map,Instant:=c.Instant,Reason:=c.Reason,Rejected:=c.Rejected,Salt:=c.Salt,Mark:=c.Mark,Features:=s.Features,Version:=c.Version,Length:=c.Length:Control}])* (120:Nat)≤(140737488355328:Nat))∧(procStartK8.L ((({s with Own:=8,Since:=now}: Procs),[]++ [{Kind:=8,Update:=c.Update,Map:=c.Map,Instant:=c.Instant,Reason:=c.Reason,Rejected:=c.Rejected,Salt:=c.Salt,Mark:=c.Mark,Features:=s.Features,Version:=c.Version,Length:=c.Length:Control}],0)) v)) ((List.length s.Waiting≤(9223372036854775807:Nat))→(cond (decide (8≤(↑(List.length s.Waiting): Int))) (procStartK8.L ((s,[],8)) v) (Ob ((List.length s.Waiting+List.length [{Kind:=8,Update:=c.Update,Map:=c.Map,Instant:=c.Instant,Reason:=c.Reason,Rejected:=c.Rejected,Salt:=c.Salt,Mark:=c.Mark,Features:=s.Features,Version:=c.Version,Length:=c.Length:Control}])* (120:Nat)≤(140737488355328:Nat))∧(procStartK8.L ((({s with Waiting:=s.Waiting ++ [{Kind:=8,Update:=c.Update,Map:=c.Map,Instant:=c.Instant,Reason:=c.Reason,Rejected:=c.Rejected,Salt:=c.Salt,Mark:=c.Mark,Features:=s.Features,Version:=c.Version,Length:=c.Length:Control}]}: Procs),[],0)) v)))))))))))))))))))))))))))))))))))))))))
theorem procStartK8.nf_ok (s:Procs) (c:Control) (event:Int) (now:Int) (v:Procs×(List Control)×Int): evFun (mkCxN Tryz.prog S tab_conEnc 0 [61,62]) 6 9 [Procs.av s,Control.av ({c with Kind:=(8:Int)}: Control), .v (.int .u16 event), .v (.int .i64 now)] [] (fun r' H'=>Gives r' H' (procStartK8.res v) (procStartK8.news v))= procStartK8.nf s c event now v:=by kernel_rfl
theorem procStartK8.key (s:Procs) (c:Control) (event:Int) (now:Int) (hp:s.Waiting.length≤1000∧s.Pending.length≤1000) (v:Procs×(List Control)×Int) (hv:v=procStartK8 s c event now): procStartK8.nf s c event now v:=by
 unfold procStartK8 at hv
 unfold procStartK8.nf
 refine ⟨⟨?_⟩, ?_⟩;rotate_left
 refine ⟨⟨?_⟩, ?_⟩;rotate_left
 revert hv;refine by_cond2 (fun hb hv=>?_) (fun hb hv=>?_)
 subst hv;exact ⟨rfl,rfl⟩
 iterate 5 refine ⟨⟨o3_ok _⟩, ?_⟩
 refine ⟨⟨on_ok _⟩, ?_⟩
 revert hv;refine by_cond2 (fun hb hv=>?_) (fun hb hv=>?_)
 subst hv;exact ⟨rfl,rfl⟩
 refine ⟨⟨o3_ok _⟩, ?_⟩
 refine ⟨⟨on_ok _⟩, ?_⟩
 iterate 4 refine ⟨⟨o3_ok _⟩, ?_⟩
 refine ⟨⟨o2_ok _⟩, ?_⟩
 iterate 6 refine ⟨⟨o3_ok _⟩, ?_⟩
 refine ⟨⟨o2_ok _⟩, ?_⟩
 iterate 9 refine ⟨⟨o3_ok _⟩, ?_⟩
 refine ⟨⟨o2_ok _⟩, ?_⟩
 refine ⟨⟨?_⟩, ?_⟩;rotate_left
 refine ⟨⟨o3_ok _⟩, ?_⟩
 refine ⟨⟨o2_ok _⟩, ?_⟩
 revert hv;refine by_cond2 (fun hb hv=>?_) (fun hb hv=>?_)
 refine ⟨⟨?_⟩, ?_⟩;rotate_left
 subst hv;exact ⟨rfl,rfl⟩
 intro hlen
 revert hv;refine by_cond2 (fun hb hv=>?_) (fun hb hv=>?_)
 subst hv;exact ⟨rfl,rfl⟩
 refine ⟨⟨?_⟩, ?_⟩;rotate_left
 subst hv;exact ⟨rfl,rfl⟩
 all_goals ((try clear hv);(try clear q1 q2);(try clear hk);(first | omega | ((try simp only [decide_eq_true_eq,decide_eq_false_iff_not,Bool.not_eq_true,Bool.not_eq_false,Bool.and_eq_true,Bool.or_eq_true,Bool.not_not,cond_and,cond_or,List.length_append,List.length_cons,List.length_nil] at *);(first | done | ((first | omega | (intros;simp_all [Bool.not_not];done)))))))
def procStartK12.res (r:Procs×(List Control)×Int): AV El:=.tup [Procs.av (r.1), .sl 37 (r.2.1:List (El 37)) false, .v (.int .i64 (r.2.2))]
def procStartK12.news (r:Procs×(List Control)×Int): List (AObj El):= []
def procStartK12.L (e v:Procs×(List Control)×Int): Prop:=procStartK12.res e=procStartK12.res v∧procStartK12.news e=procStartK12.news v
def procStartK12 (s:Procs) (c:Control) (event:Int) (now:Int): Procs×(List Control)×Int:=cond (cCheck {Kind:=12,Update:=c.Update,Map:=c.Map,Instant:=c.Instant,Reason:=c.Reason,Rejected:=c.Rejected,Salt:=c.Salt,Mark:=c.Mark,Features:=c.Features,Version:=11,Length:=c.Length:Control} != 0) ((s,[],cCheck {Kind:=12,Update:=c.Update,Map:=c.Map,Instant:=c.Instant,Reason:=c.Reason,Rejected:=c.Rejected,Salt:=c.Salt,Mark:=c.Mark,Features:=c.Features,Version:=11,Length:=c.Length:Control})) (cond (bif s.Ended != 0 then true else s.Own==2) ((s,[],9)) (cond (bif (12:Int)== (12:Int) then s.VersionTx else false) ((s,[],0)) (cond (bif bif s.Own==(-1) then (↑(List.length s.Waiting): Int)== 0 else false then !bif pChanges 12 then decide (0 < (↑(List.length s.Pending): Int)) else false else false) ((({s with Own:=12,Since:=now,VersionTx:=true}: Procs),[]++ [{Kind:=12,Update:=c.Update,Map:=c.Map,Instant:=c.Instant,Reason:=c.Reason,Rejected:=c.Rejected,Salt:=c.Salt,Mark:=c.Mark,Features:=c.Features,Version:=11,Length:=c.Length:Control}],0)) (cond (decide (8≤(↑(List.length s.Waiting): Int))) ((s,[],8)) ((({s with Waiting:=s.Waiting ++ [{Kind:=12,Update:=c.Update,Map:=c.Map,Instant:=c.Instant,Reason:=c.Reason,Rejected:=c.Rejected,Salt:=c.Salt,Mark:=c.Mark,Features:=c.Features,Version:=11,Length:=c.Length:Control}]}: Procs),[],0))))))
def procStartK12_nf_g1 (s:Procs): Bool:=bif (s.Own==(-1:Int)) then ((↑(List.length s.Waiting): Int)== (0:Int)) else false
def procStartK12.nf (s:Procs) (c:Control) (event:Int) (now:Int) (v:Procs×(List Control)×Int): Prop:=Ob (List.length s.Waiting*(120:Nat)≤(140737488355328:Nat))∧(Ob (List.length s.Pending*(64:Nat)≤(140737488355328:Nat))∧(cond (cCheck {Kind:=12,Update:=c.Update,Map:=c.Map,Instant:=c.Instant,Reason:=c.Reason,Rejected:=c.Rejected,Salt:=c.Salt,Mark:=c.Mark,Features:=c.Features,Version:=11,Length:=c.Length:Control} != 0) (procStartK12.L ((s,[],cCheck {Kind:=12,Update:=c.Update,Map:=c.Map,Instant:=c.Instant,Reason:=c.Reason,Rejected:=c.Rejected,Salt:=c.Salt,Mark:=c.Mark,Features:=c.Features,Version:=11,Length:=c.Length:Control})) v) (Ob (o3 (!s.Ended != 0))∧(Ob (o3 (!s.Ended != 0))∧(Ob (o3 (!s.Ended != 0))∧(Ob (o3 (!s.Ended != 0))∧(Ob (o3 (!s.Ended != 0))∧(Ob (on (s.Ended != 0))∧(cond (bif s.Ended != 0 then true else s.Own==2) (procStartK12.L ((s,[],9)) v) (Ob (o3 true)∧(Ob (on (pChanges 12))∧(Ob (o3 true)∧(Ob (o3 true)∧(Ob (o3 true)∧(Ob (o3 true)∧(Ob (o2 true)∧(cond (bif (12:Int)== (12:Int) then s.VersionTx else false) (procStartK12.L ((s,[],0)) v) (Ob (o3 (s.Own==(-1)))∧(Ob (o3 (s.Own==(-1)))∧(Ob (o3 (s.Own==(-1)))∧(Ob (o3 (s.Own==(-1)))∧(Ob (o3 (s.Own==(-1)))∧(Ob (o3 (s.Own==(-1)))∧(Ob (o2 (s.Own==(-1)))∧(Ob (o3 (procStartK12_nf_g1 s))∧(Ob (o3 (procStartK12_nf_g1 s))∧(Ob (o3 (procStartK12_nf_g1 s))∧(Ob (o3 ((bif s.Own==(-1) then (↑(List.length s.Waiting): Int)== 0 else false) && pChanges 12))∧(Ob (o3 ((bif s.Own==(-1) then (↑(List.length s.Waiting): Int)== 0 else false) && pChanges 12))∧(Ob (o3 ((bif s.Own==(-1) then (↑(List.length s.Waiting): Int)== 0 else false) && pChanges 12))∧(Ob (o3 ((bif s.Own==(-1) then (↑(List.length s.Waiting): Int)== 0 else false) && pChanges 12))∧(Ob (o3 ((bif s.Own==(-1) then (↑(List.length s.Waiting): Int)== 0 else false) && pChanges 12))∧(Ob (o3 ((bif s.Own==(-1) then (↑(List.length s.Waiting): Int)== 0 else false) && pChanges 12))∧(Ob (o2 (procStartK12_nf_g1 s))∧(Ob ((bif s.Own==(-1) then (↑(List.length s.Waiting): Int)== 0 else false)= true→pChanges 12=true→((bif s.Own==(-1) then (↑(List.length s.Waiting): Int)== 0 else false) && pChanges 12)= true)∧(Ob (o3 (procStartK12_nf_g1 s))∧(Ob (o2 (procStartK12_nf_g1 s))∧(cond (bif bif s.Own==(-1) then (↑(List.length s.Waiting): Int)== 0 else false then !bif pChanges 12 then decide (0 < (↑(List.length s.Pending): Int)) else false else false) (Ob (((0:Nat)+ List.length [{Kind:=12,Update:=c.Update,Map:=c.Map,Instant:=c.Instant,Reason:=c.Reason,Rejected:=c.Rejected,Salt:=c.Salt,Mark:=c.Mark,Features:=c.Features,Version:=11,Length:=c.Length:Control}])* (120:Nat)≤(140737488355328:Nat))∧(procStartK12.L ((({s with Own:=12,Since:=now,VersionTx:=true}: Procs),[]++ [{Kind:=12,Update:=c.Update,Map:=c.Map,Instant:=c.Instant,Reason:=c.Reason,Rejected:=c.Rejected,Salt:=c.Salt,Mark:=c.Mark,Features:=c.Features,Version:=11,Length:=c.Length:Control}],0)) v)) ((List.length s.Waiting≤(9223372036854775807:Nat))→(cond (decide (8≤(↑(List.length s.Waiting): Int))) (procStartK12.L ((s,[],8)) v) (Ob ((List.length s.Waiting+List.length [{Kind:=12,Update:=c.Update,Map:=c.Map,Instant:=c.Instant,Reason:=c.Reason,Rejected:=c.Rejected,Salt:=c.Salt,Mark:=c.Mark,Features:=c.Features,Version:=11,Length:=c.Length:Control}])* (120:Nat)≤(140737488355328:Nat))∧(procStartK12.L ((({s with Waiting:=s.Waiting ++ [{Kind:=12,Update:=c.Update,Map:=c.Map,Instant:=c.Instant,Reason:=c.Reason,Rejected:=c.Rejected,Salt:=c.Salt,Mark:=c.Mark,Features:=c.Features,Version:=11,Length:=c.Length:Control}]}: Procs),[],0)) v))))))))))))))))))))))))))))))))))))))))))
theorem procStartK12.nf_ok (s:Procs) (c:Control) (event:Int) (now:Int) (v:Procs×(List Control)×Int): evFun (mkCxN Tryz.prog S tab_conEnc 0 [61,62]) 6 9 [Procs.av s,Control.av ({c with Kind:=(12:Int)}: Control), .v (.int .u16 event), .v (.int .i64 now)] [] (fun r' H'=>Gives r' H' (procStartK12.res v) (procStartK12.news v))= procStartK12.nf s c event now v:=by kernel_rfl
theorem procStartK12.key (s:Procs) (c:Control) (event:Int) (now:Int) (hp:s.Waiting.length≤1000∧s.Pending.length≤1000) (v:Procs×(List Control)×Int) (hv:v=procStartK12 s c event now): procStartK12.nf s c event now v:=by
 unfold procStartK12 at hv
 unfold procStartK12.nf
 refine ⟨⟨?_⟩, ?_⟩;rotate_left
 refine ⟨⟨?_⟩, ?_⟩;rotate_left
 revert hv;refine by_cond2 (fun hb hv=>?_) (fun hb hv=>?_)
 subst hv;exact ⟨rfl,rfl⟩
 iterate 5 refine ⟨⟨o3_ok _⟩, ?_⟩
 refine ⟨⟨on_ok _⟩, ?_⟩
 revert hv;refine by_cond2 (fun hb hv=>?_) (fun hb hv=>?_)
 subst hv;exact ⟨rfl,rfl⟩
 refine ⟨⟨o3_ok _⟩, ?_⟩
 refine ⟨⟨on_ok _⟩, ?_⟩
 iterate 4 refine ⟨⟨o3_ok _⟩, ?_⟩
 refine ⟨⟨o2_ok _⟩, ?_⟩
 revert hv;refine by_cond2 (fun hb hv=>?_) (fun hb hv=>?_)
 subst hv;exact ⟨rfl,rfl⟩
 iterate 6 refine ⟨⟨o3_ok _⟩, ?_⟩
 refine ⟨⟨o2_ok _⟩, ?_⟩
 iterate 9 refine ⟨⟨o3_ok _⟩, ?_⟩
 refine ⟨⟨o2_ok _⟩, ?_⟩
 refine ⟨⟨?_⟩, ?_⟩;rotate_left
 refine ⟨⟨o3_ok _⟩, ?_⟩
 refine ⟨⟨o2_ok _⟩, ?_⟩
 revert hv;refine by_cond2 (fun hb hv=>?_) (fun hb hv=>?_)
 refine ⟨⟨?_⟩, ?_⟩;rotate_left
 subst hv;exact ⟨rfl,rfl⟩
 intro hlen
 revert hv;refine by_cond2 (fun hb hv=>?_) (fun hb hv=>?_)
 subst hv;exact ⟨rfl,rfl⟩
 refine ⟨⟨?_⟩, ?_⟩;rotate_left
 subst hv;exact ⟨rfl,rfl⟩
 all_goals ((try clear hv);(try clear q1 q2);(try clear hk);(first | omega | ((try simp only [decide_eq_true_eq,decide_eq_false_iff_not,Bool.not_eq_true,Bool.not_eq_false,Bool.and_eq_true,Bool.or_eq_true,Bool.not_not,cond_and,cond_or,List.length_append,List.length_cons,List.length_nil] at *);(first | done | ((first | omega | (intros;simp_all [Bool.not_not];done)))))))
def procStartK15.res (r:Procs×(List Control)×Int): AV El:=.tup [Procs.av (r.1), .sl 37 (r.2.1:List (El 37)) false, .v (.int .i64 (r.2.2))]
def procStartK15.news (r:Procs×(List Control)×Int): List (AObj El):= []
def procStartK15.L (e v:Procs×(List Control)×Int): Prop:=procStartK15.res e=procStartK15.res v∧procStartK15.news e=procStartK15.news v
def procStartK15 (s:Procs) (c:Control) (event:Int) (now:Int): Procs×(List Control)×Int:=cond (cCheck {Kind:=15,Update:=c.Update,Map:=c.Map,Instant:=c.Instant,Reason:=c.Reason,Rejected:=c.Rejected,Salt:=c.Salt,Mark:=c.Mark,Features:=c.Features,Version:=c.Version,Length:=c.Length:Control} != 0) ((s,[],cCheck {Kind:=15,Update:=c.Update,Map:=c.Map,Instant:=c.Instant,Reason:=c.Reason,Rejected:=c.Rejected,Salt:=c.Salt,Mark:=c.Mark,Features:=c.Features,Version:=c.Version,Length:=c.Length:Control})) (cond (bif s.Ended != 0 then true else s.Own==2) ((s,[],9)) (cond (s.Role != 1) ((s,[],9)) (cond (bif bif s.Own==(-1) then (↑(List.length s.Waiting): Int)== 0 else false then !bif pChanges 15 then decide (0 < (↑(List.length s.Pending): Int)) else false else false) ((({s with Own:=15,Since:=now}: Procs),[]++ [{Kind:=15,Update:=c.Update,Map:=c.Map,Instant:=c.Instant,Reason:=c.Reason,Rejected:=c.Rejected,Salt:=c.Salt,Mark:=c.Mark,Features:=c.Features,Version:=c.Version,Length:=c.Length:Control}],0)) (cond (decide (8≤(↑(List.length s.Waiting): Int))) ((s,[],8)) ((({s with Waiting:=s.Waiting ++ [{Kind:=15,Update:=c.Update,Map:=c.Map,Instant:=c.Instant,Reason:=c.Reason,Rejected:=c.Rejected,Salt:=c.Salt,Mark:=c.Mark,Features:=c.Features,Version:=c.Version,Length:=c.Length:Control}]}: Procs),[],0))))))
def procStartK15_nf_g1 (s:Procs): Bool:=bif (s.Own==(-1:Int)) then ((↑(List.length s.Waiting): Int)== (0:Int)) else false
def procStartK15.nf (s:Procs) (c:Control) (event:Int) (now:Int) (v:Procs×(List Control)×Int): Prop:=Ob (List.length s.Waiting*(120:Nat)≤(140737488355328:Nat))∧(Ob (List.length s.Pending*(64:Nat)≤(140737488355328:Nat))∧(cond (cCheck {Kind:=15,Update:=c.Update,Map:=c.Map,Instant:=c.Instant,Reason:=c.Reason,Rejected:=c.Rejected,Salt:=c.Salt,Mark:=c.Mark,Features:=c.Features,Version:=c.Version,Length:=c.Length:Control} != 0) (procStartK15.L ((s,[],cCheck {Kind:=15,Update:=c.Update,Map:=c.Map,Instant:=c.Instant,Reason:=c.Reason,Rejected:=c.Rejected,Salt:=c.Salt,Mark:=c.Mark,Features:=c.Features,Version:=c.Version,Length:=c.Length:Control})) v) (Ob (o3 (!s.Ended != 0))∧(Ob (o3 (!s.Ended != 0))∧(Ob (o3 (!s.Ended != 0))∧(Ob (o3 (!s.Ended != 0))∧(Ob (o3 (!s.Ended != 0))∧(Ob (on (s.Ended != 0))∧(cond (bif s.Ended != 0 then true else s.Own==2) (procStartK15.L ((s,[],9)) v) (Ob (o3 true)∧(Ob (on (pChanges 15))∧(cond (s.Role != 1) (procStartK15.L ((s,[],9)) v) (Ob (o3 false)∧(Ob (o3 false)∧(Ob (o3 false)∧(Ob (o3 false)∧(Ob (o2 false)∧(Ob (o3 (s.Own==(-1)))∧(Ob (o3 (s.Own==(-1)))∧(Ob (o3 (s.Own==(-1)))∧(Ob (o3 (s.Own==(-1)))∧(Ob (o3 (s.Own==(-1)))∧(Ob (o3 (s.Own==(-1)))∧(Ob (o2 (s.Own==(-1)))∧(Ob (o3 (procStartK15_nf_g1 s))∧(Ob (o3 (procStartK15_nf_g1 s))∧(Ob (o3 (procStartK15_nf_g1 s))∧(Ob (o3 ((bif s.Own==(-1) then (↑(List.length s.Waiting): Int)== 0 else false) && pChanges 15))∧(Ob (o3 ((bif s.Own==(-1) then (↑(List.length s.Waiting): Int)== 0 else false) && pChanges 15))∧(Ob (o3 ((bif s.Own==(-1) then (↑(List.length s.Waiting): Int)== 0 else false) && pChanges 15))∧(Ob (o3 ((bif s.Own==(-1) then (↑(List.length s.Waiting): Int)== 0 else false) && pChanges 15))∧(Ob (o3 ((bif s.Own==(-1) then (↑(List.length s.Waiting): Int)== 0 else false) && pChanges 15))∧(Ob (o3 ((bif s.Own==(-1) then (↑(List.length s.Waiting): Int)== 0 else false) && pChanges 15))∧(Ob (o2 (procStartK15_nf_g1 s))∧(Ob ((bif s.Own==(-1) then (↑(List.length s.Waiting): Int)== 0 else false)= true→pChanges 15=true→((bif s.Own==(-1) then (↑(List.length s.Waiting): Int)== 0 else false) && pChanges 15)= true)∧(Ob (o3 (procStartK15_nf_g1 s))∧(Ob (o2 (procStartK15_nf_g1 s))∧(cond (bif bif s.Own==(-1) then (↑(List.length s.Waiting): Int)== 0 else false then !bif pChanges 15 then decide (0 < (↑(List.length s.Pending): Int)) else false else false) (Ob (((0:Nat)+ List.length [{Kind:=15,Update:=c.Update,Map:=c.Map,Instant:=c.Instant,Reason:=c.Reason,Rejected:=c.Rejected,Salt:=c.Salt,Mark:=c.Mark,Features:=c.Features,Version:=c.Version,Length:=c.Length:Control}])* (120:Nat)≤(140737488355328:Nat))∧(procStartK15.L ((({s with Own:=15,Since:=now}: Procs),[]++ [{Kind:=15,Update:=c.Update,Map:=c.Map,Instant:=c.Instant,Reason:=c.Reason,Rejected:=c.Rejected,Salt:=c.Salt,Mark:=c.Mark,Features:=c.Features,Version:=c.Version,Length:=c.Length:Control}],0)) v)) ((List.length s.Waiting≤(9223372036854775807:Nat))→(cond (decide (8≤(↑(List.length s.Waiting): Int))) (procStartK15.L ((s,[],8)) v) (Ob ((List.length s.Waiting+List.length [{Kind:=15,Update:=c.Update,Map:=c.Map,Instant:=c.Instant,Reason:=c.Reason,Rejected:=c.Rejected,Salt:=c.Salt,Mark:=c.Mark,Features:=c.Features,Version:=c.Version,Length:=c.Length:Control}])* (120:Nat)≤(140737488355328:Nat))∧(procStartK15.L ((({s with Waiting:=s.Waiting ++ [{Kind:=15,Update:=c.Update,Map:=c.Map,Instant:=c.Instant,Reason:=c.Reason,Rejected:=c.Rejected,Salt:=c.Salt,Mark:=c.Mark,Features:=c.Features,Version:=c.Version,Length:=c.Length:Control}]}: Procs),[],0)) v))))))))))))))))))))))))))))))))))))))))))
theorem procStartK15.nf_ok (s:Procs) (c:Control) (event:Int) (now:Int) (v:Procs×(List Control)×Int): evFun (mkCxN Tryz.prog S tab_conEnc 0 [61,62]) 6 9 [Procs.av s,Control.av ({c with Kind:=(15:Int)}: Control), .v (.int .u16 event), .v (.int .i64 now)] [] (fun r' H'=>Gives r' H' (procStartK15.res v) (procStartK15.news v))= procStartK15.nf s c event now v:=by kernel_rfl
theorem procStartK15.key (s:Procs) (c:Control) (event:Int) (now:Int) (hp:s.Waiting.length≤1000∧s.Pending.length≤1000) (v:Procs×(List Control)×Int) (hv:v=procStartK15 s c event now): procStartK15.nf s c event now v:=by
 unfold procStartK15 at hv
 unfold procStartK15.nf
 refine ⟨⟨?_⟩, ?_⟩;rotate_left
 refine ⟨⟨?_⟩, ?_⟩;rotate_left
 revert hv;refine by_cond2 (fun hb hv=>?_) (fun hb hv=>?_)
 subst hv;exact ⟨rfl,rfl⟩
 iterate 5 refine ⟨⟨o3_ok _⟩, ?_⟩
 refine ⟨⟨on_ok _⟩, ?_⟩
 revert hv;refine by_cond2 (fun hb hv=>?_) (fun hb hv=>?_)
 subst hv;exact ⟨rfl,rfl⟩
 refine ⟨⟨o3_ok _⟩, ?_⟩
 refine ⟨⟨on_ok _⟩, ?_⟩
 revert hv;refine by_cond2 (fun hb hv=>?_) (fun hb hv=>?_)
 subst hv;exact ⟨rfl,rfl⟩
 iterate 4 refine ⟨⟨o3_ok _⟩, ?_⟩
 refine ⟨⟨o2_ok _⟩, ?_⟩
 iterate 6 refine ⟨⟨o3_ok _⟩, ?_⟩
 refine ⟨⟨o2_ok _⟩, ?_⟩
 iterate 9 refine ⟨⟨o3_ok _⟩, ?_⟩
 refine ⟨⟨o2_ok _⟩, ?_⟩
 refine ⟨⟨?_⟩, ?_⟩;rotate_left
 refine ⟨⟨o3_ok _⟩, ?_⟩
 refine ⟨⟨o2_ok _⟩, ?_⟩
 revert hv;refine by_cond2 (fun hb hv=>?_) (fun hb hv=>?_)
 refine ⟨⟨?_⟩, ?_⟩;rotate_left
 subst hv;exact ⟨rfl,rfl⟩
 intro hlen
 revert hv;refine by_cond2 (fun hb hv=>?_) (fun hb hv=>?_)
 subst hv;exact ⟨rfl,rfl⟩
 refine ⟨⟨?_⟩, ?_⟩;rotate_left
 subst hv;exact ⟨rfl,rfl⟩
 all_goals ((try clear hv);(try clear q1 q2);(try clear hk);(first | omega | ((try simp only [decide_eq_true_eq,decide_eq_false_iff_not,Bool.not_eq_true,Bool.not_eq_false,Bool.and_eq_true,Bool.or_eq_true,Bool.not_not,cond_and,cond_or,List.length_append,List.length_cons,List.length_nil] at *);(first | done | ((first | omega | (intros;simp_all [Bool.not_not];done)))))))
def procStartK18.res (r:Procs×(List Control)×Int): AV El:=.tup [Procs.av (r.1), .sl 37 (r.2.1:List (El 37)) false, .v (.int .i64 (r.2.2))]
def procStartK18.news (r:Procs×(List Control)×Int): List (AObj El):= []
def procStartK18.L (e v:Procs×(List Control)×Int): Prop:=procStartK18.res e=procStartK18.res v∧procStartK18.news e=procStartK18.news v
def procStartK18 (s:Procs) (c:Control) (event:Int) (now:Int): Procs×(List Control)×Int:=cond (cCheck {Kind:=18,Update:=c.Update,Map:=c.Map,Instant:=c.Instant,Reason:=c.Reason,Rejected:=c.Rejected,Salt:=c.Salt,Mark:=c.Mark,Features:=c.Features,Version:=c.Version,Length:=c.Length:Control} != 0) ((s,[],cCheck {Kind:=18,Update:=c.Update,Map:=c.Map,Instant:=c.Instant,Reason:=c.Reason,Rejected:=c.Rejected,Salt:=c.Salt,Mark:=c.Mark,Features:=c.Features,Version:=c.Version,Length:=c.Length:Control})) (cond (bif s.Ended != 0 then true else s.Own==2) ((s,[],9)) (cond (bif bif s.Own==(-1) then (↑(List.length s.Waiting): Int)== 0 else false then !bif pChanges 18 then decide (0 < (↑(List.length s.Pending): Int)) else false else false) ((({s with Own:=18,Since:=now}: Procs),[]++ [{Kind:=18,Update:=c.Update,Map:=c.Map,Instant:=c.Instant,Reason:=c.Reason,Rejected:=c.Rejected,Salt:=c.Salt,Mark:=c.Mark,Features:=c.Features,Version:=c.Version,Length:=c.Length:Control}],0)) (cond (decide (8≤(↑(List.length s.Waiting): Int))) ((s,[],8)) ((({s with Waiting:=s.Waiting ++ [{Kind:=18,Update:=c.Update,Map:=c.Map,Instant:=c.Instant,Reason:=c.Reason,Rejected:=c.Rejected,Salt:=c.Salt,Mark:=c.Mark,Features:=c.Features,Version:=c.Version,Length:=c.Length:Control}]}: Procs),[],0)))))
def procStartK18_nf_g1 (s:Procs): Bool:=bif (s.Own==(-1:Int)) then ((↑(List.length s.Waiting): Int)== (0:Int)) else false
def procStartK18.nf (s:Procs) (c:Control) (event:Int) (now:Int) (v:Procs×(List Control)×Int): Prop:=Ob (List.length s.Waiting*(120:Nat)≤(140737488355328:Nat))∧(Ob (List.length s.Pending*(64:Nat)≤(140737488355328:Nat))∧(cond (cCheck {Kind:=18,Update:=c.Update,Map:=c.Map,Instant:=c.Instant,Reason:=c.Reason,Rejected:=c.Rejected,Salt:=c.Salt,Mark:=c.Mark,Features:=c.Features,Version:=c.Version,Length:=c.Length:Control} != 0) (procStartK18.L ((s,[],cCheck {Kind:=18,Update:=c.Update,Map:=c.Map,Instant:=c.Instant,Reason:=c.Reason,Rejected:=c.Rejected,Salt:=c.Salt,Mark:=c.Mark,Features:=c.Features,Version:=c.Version,Length:=c.Length:Control})) v) (Ob (o3 (!s.Ended != 0))∧(Ob (o3 (!s.Ended != 0))∧(Ob (o3 (!s.Ended != 0))∧(Ob (o3 (!s.Ended != 0))∧(Ob (o3 (!s.Ended != 0))∧(Ob (on (s.Ended != 0))∧(cond (bif s.Ended != 0 then true else s.Own==2) (procStartK18.L ((s,[],9)) v) (Ob (o3 true)∧(Ob (on (pChanges 18))∧(Ob (o3 false)∧(Ob (o3 false)∧(Ob (o3 false)∧(Ob (o3 false)∧(Ob (o2 false)∧(Ob (o3 (s.Own==(-1)))∧(Ob (o3 (s.Own==(-1)))∧(Ob (o3 (s.Own==(-1)))∧(Ob (o3 (s.Own==(-1)))∧(Ob (o3 (s.Own==(-1)))∧(Ob (o3 (s.Own==(-1)))∧(Ob (o2 (s.Own==(-1)))∧(Ob (o3 (procStartK18_nf_g1 s))∧(Ob (o3 (procStartK18_nf_g1 s))∧(Ob (o3 (procStartK18_nf_g1 s))∧(Ob (o3 ((bif s.Own==(-1) then (↑(List.length s.Waiting): Int)== 0 else false) && pChanges 18))∧(Ob (o3 ((bif s.Own==(-1) then (↑(List.length s.Waiting): Int)== 0 else false) && pChanges 18))∧(Ob (o3 ((bif s.Own==(-1) then (↑(List.length s.Waiting): Int)== 0 else false) && pChanges 18))∧(Ob (o3 ((bif s.Own==(-1) then (↑(List.length s.Waiting): Int)== 0 else false) && pChanges 18))∧(Ob (o3 ((bif s.Own==(-1) then (↑(List.length s.Waiting): Int)== 0 else false) && pChanges 18))∧(Ob (o3 ((bif s.Own==(-1) then (↑(List.length s.Waiting): Int)== 0 else false) && pChanges 18))∧(Ob (o2 (procStartK18_nf_g1 s))∧(Ob ((bif s.Own==(-1) then (↑(List.length s.Waiting): Int)== 0 else false)= true→pChanges 18=true→((bif s.Own==(-1) then (↑(List.length s.Waiting): Int)== 0 else false) && pChanges 18)= true)∧(Ob (o3 (procStartK18_nf_g1 s))∧(Ob (o2 (procStartK18_nf_g1 s))∧(cond (bif bif s.Own==(-1) then (↑(List.length s.Waiting): Int)== 0 else false then !bif pChanges 18 then decide (0 < (↑(List.length s.Pending): Int)) else false else false) (Ob (((0:Nat)+ List.length [{Kind:=18,Update:=c.Update,Map:=c.Map,Instant:=c.Instant,Reason:=c.Reason,Rejected:=c.Rejected,Salt:=c.Salt,Mark:=c.Mark,Features:=c.Features,Version:=c.Version,Length:=c.Length:Control}])* (120:Nat)≤(140737488355328:Nat))∧(procStartK18.L ((({s with Own:=18,Since:=now}: Procs),[]++ [{Kind:=18,Update:=c.Update,Map:=c.Map,Instant:=c.Instant,Reason:=c.Reason,Rejected:=c.Rejected,Salt:=c.Salt,Mark:=c.Mark,Features:=c.Features,Version:=c.Version,Length:=c.Length:Control}],0)) v)) ((List.length s.Waiting≤(9223372036854775807:Nat))→(cond (decide (8≤(↑(List.length s.Waiting): Int))) (procStartK18.L ((s,[],8)) v) (Ob ((List.length s.Waiting+List.length [{Kind:=18,Update:=c.Update,Map:=c.Map,Instant:=c.Instant,Reason:=c.Reason,Rejected:=c.Rejected,Salt:=c.Salt,Mark:=c.Mark,Features:=c.Features,Version:=c.Version,Length:=c.Length:Control}])* (120:Nat)≤(140737488355328:Nat))∧(procStartK18.L ((({s with Waiting:=s.Waiting ++ [{Kind:=18,Update:=c.Update,Map:=c.Map,Instant:=c.Instant,Reason:=c.Reason,Rejected:=c.Rejected,Salt:=c.Salt,Mark:=c.Mark,Features:=c.Features,Version:=c.Version,Length:=c.Length:Control}]}: Procs),[],0)) v)))))))))))))))))))))))))))))))))))))))))
theorem procStartK18.nf_ok (s:Procs) (c:Control) (event:Int) (now:Int) (v:Procs×(List Control)×Int): evFun (mkCxN Tryz.prog S tab_conEnc 0 [61,62]) 6 9 [Procs.av s,Control.av ({c with Kind:=(18:Int)}: Control), .v (.int .u16 event), .v (.int .i64 now)] [] (fun r' H'=>Gives r' H' (procStartK18.res v) (procStartK18.news v))= procStartK18.nf s c event now v:=by kernel_rfl
theorem procStartK18.key (s:Procs) (c:Control) (event:Int) (now:Int) (hp:s.Waiting.length≤1000∧s.Pending.length≤1000) (v:Procs×(List Control)×Int) (hv:v=procStartK18 s c event now): procStartK18.nf s c event now v:=by
 unfold procStartK18 at hv
 unfold procStartK18.nf
 refine ⟨⟨?_⟩, ?_⟩;rotate_left
 refine ⟨⟨?_⟩, ?_⟩;rotate_left
 revert hv;refine by_cond2 (fun hb hv=>?_) (fun hb hv=>?_)
 subst hv;exact ⟨rfl,rfl⟩
 iterate 5 refine ⟨⟨o3_ok _⟩, ?_⟩
 refine ⟨⟨on_ok _⟩, ?_⟩
 revert hv;refine by_cond2 (fun hb hv=>?_) (fun hb hv=>?_)
 subst hv;exact ⟨rfl,rfl⟩
 refine ⟨⟨o3_ok _⟩, ?_⟩
 refine ⟨⟨on_ok _⟩, ?_⟩
 iterate 4 refine ⟨⟨o3_ok _⟩, ?_⟩
 refine ⟨⟨o2_ok _⟩, ?_⟩
 iterate 6 refine ⟨⟨o3_ok _⟩, ?_⟩
 refine ⟨⟨o2_ok _⟩, ?_⟩
 iterate 9 refine ⟨⟨o3_ok _⟩, ?_⟩
 refine ⟨⟨o2_ok _⟩, ?_⟩
 refine ⟨⟨?_⟩, ?_⟩;rotate_left
 refine ⟨⟨o3_ok _⟩, ?_⟩
 refine ⟨⟨o2_ok _⟩, ?_⟩
 revert hv;refine by_cond2 (fun hb hv=>?_) (fun hb hv=>?_)
 refine ⟨⟨?_⟩, ?_⟩;rotate_left
 subst hv;exact ⟨rfl,rfl⟩
 intro hlen
 revert hv;refine by_cond2 (fun hb hv=>?_) (fun hb hv=>?_)
 subst hv;exact ⟨rfl,rfl⟩
 refine ⟨⟨?_⟩, ?_⟩;rotate_left
 subst hv;exact ⟨rfl,rfl⟩
 all_goals ((try clear hv);(try clear q1 q2);(try clear hk);(first | omega | ((try simp only [decide_eq_true_eq,decide_eq_false_iff_not,Bool.not_eq_true,Bool.not_eq_false,Bool.and_eq_true,Bool.or_eq_true,Bool.not_not,cond_and,cond_or,List.length_append,List.length_cons,List.length_nil] at *);(first | done | ((first | omega | (intros;simp_all [Bool.not_not];done)))))))
def procStartK20.res (r:Procs×(List Control)×Int): AV El:=.tup [Procs.av (r.1), .sl 37 (r.2.1:List (El 37)) false, .v (.int .i64 (r.2.2))]
def procStartK20.news (r:Procs×(List Control)×Int): List (AObj El):= []
def procStartK20.L (e v:Procs×(List Control)×Int): Prop:=procStartK20.res e=procStartK20.res v∧procStartK20.news e=procStartK20.news v
def procStartK20 (s:Procs) (c:Control) (event:Int) (now:Int): Procs×(List Control)×Int:=cond (cCheck {Kind:=20,Update:=c.Update,Map:=c.Map,Instant:=c.Instant,Reason:=c.Reason,Rejected:=c.Rejected,Salt:=c.Salt,Mark:=c.Mark,Features:=c.Features,Version:=c.Version,Length:=c.Length:Control} != 0) ((s,[],cCheck {Kind:=20,Update:=c.Update,Map:=c.Map,Instant:=c.Instant,Reason:=c.Reason,Rejected:=c.Rejected,Salt:=c.Salt,Mark:=c.Mark,Features:=c.Features,Version:=c.Version,Length:=c.Length:Control})) (cond (bif s.Ended != 0 then true else s.Own==2) ((s,[],9)) (cond (bif bif s.Own==(-1) then (↑(List.length s.Waiting): Int)== 0 else false then !bif pChanges 20 then decide (0 < (↑(List.length s.Pending): Int)) else false else false) ((({s with Own:=20,Since:=now,Limit:=c.Length}: Procs),[]++ [{Kind:=20,Update:=c.Update,Map:=c.Map,Instant:=c.Instant,Reason:=c.Reason,Rejected:=c.Rejected,Salt:=c.Salt,Mark:=c.Mark,Features:=c.Features,Version:=c.Version,Length:=c.Length:Control}],0)) (cond (decide (8≤(↑(List.length s.Waiting): Int))) ((s,[],8)) ((({s with Waiting:=s.Waiting ++ [{Kind:=20,Update:=c.Update,Map:=c.Map,Instant:=c.Instant,Reason:=c.Reason,Rejected:=c.Rejected,Salt:=c.Salt,Mark:=c.Mark,Features:=c.Features,Version:=c.Version,Length:=c.Length:Control}]}: Procs),[],0)))))
def procStartK20_nf_g1 (s:Procs): Bool:=bif (s.Own==(-1:Int)) then ((↑(List.length s.Waiting): Int)== (0:Int)) else false
def procStartK20.nf (s:Procs) (c:Control) (event:Int) (now:Int) (v:Procs×(List Control)×Int): Prop:=Ob (List.length s.Waiting*(120:Nat)≤(140737488355328:Nat))∧(Ob (List.length s.Pending*(64:Nat)≤(140737488355328:Nat))∧(cond (cCheck {Kind:=20,Update:=c.Update,Map:=c.Map,Instant:=c.Instant,Reason:=c.Reason,Rejected:=c.Rejected,Salt:=c.Salt,Mark:=c.Mark,Features:=c.Features,Version:=c.Version,Length:=c.Length:Control} != 0) (procStartK20.L ((s,[],cCheck {Kind:=20,Update:=c.Update,Map:=c.Map,Instant:=c.Instant,Reason:=c.Reason,Rejected:=c.Rejected,Salt:=c.Salt,Mark:=c.Mark,Features:=c.Features,Version:=c.Version,Length:=c.Length:Control})) v) (Ob (o3 (!s.Ended != 0))∧(Ob (o3 (!s.Ended != 0))∧(Ob (o3 (!s.Ended != 0))∧(Ob (o3 (!s.Ended != 0))∧(Ob (o3 (!s.Ended != 0))∧(Ob (on (s.Ended != 0))∧(cond (bif s.Ended != 0 then true else s.Own==2) (procStartK20.L ((s,[],9)) v) (Ob (o3 true)∧(Ob (on (pChanges 20))∧(Ob (o3 false)∧(Ob (o3 false)∧(Ob (o3 false)∧(Ob (o3 false)∧(Ob (o2 false)∧(Ob (o3 (s.Own==(-1)))∧(Ob (o3 (s.Own==(-1)))∧(Ob (o3 (s.Own==(-1)))∧(Ob (o3 (s.Own==(-1)))∧(Ob (o3 (s.Own==(-1)))∧(Ob (o3 (s.Own==(-1)))∧(Ob (o2 (s.Own==(-1)))∧(Ob (o3 (procStartK20_nf_g1 s))∧(Ob (o3 (procStartK20_nf_g1 s))∧(Ob (o3 (procStartK20_nf_g1 s))∧(Ob (o3 ((bif s.Own==(-1) then (↑(List.length s.Waiting): Int)== 0 else false) && pChanges 20))∧(Ob (o3 ((bif s.Own==(-1) then (↑(List.length s.Waiting): Int)== 0 else false) && pChanges 20))∧(Ob (o3 ((bif s.Own==(-1) then (↑(List.length s.Waiting): Int)== 0 else false) && pChanges 20))∧(Ob (o3 ((bif s.Own==(-1) then (↑(List.length s.Waiting): Int)== 0 else false) && pChanges 20))∧(Ob (o3 ((bif s.Own==(-1) then (↑(List.length s.Waiting): Int)== 0 else false) && pChanges 20))∧(Ob (o3 ((bif s.Own==(-1) then (↑(List.length s.Waiting): Int)== 0 else false) && pChanges 20))∧(Ob (o2 (procStartK20_nf_g1 s))∧(Ob ((bif s.Own==(-1) then (↑(List.length s.Waiting): Int)== 0 else false)= true→pChanges 20=true→((bif s.Own==(-1) then (↑(List.length s.Waiting): Int)== 0 else false) && pChanges 20)= true)∧(Ob (o3 (procStartK20_nf_g1 s))∧(Ob (o2 (procStartK20_nf_g1 s))∧(cond (bif bif s.Own==(-1) then (↑(List.length s.Waiting): Int)== 0 else false then !bif pChanges 20 then decide (0 < (↑(List.length s.Pending): Int)) else false else false) (Ob (((0:Nat)+ List.length [{Kind:=20,Update:=c.Update,Map:=c.Map,Instant:=c.Instant,Reason:=c.Reason,Rejected:=c.Rejected,Salt:=c.Salt,Mark:=c.Mark,Features:=c.Features,Version:=c.Version,Length:=c.Length:Control}])* (120:Nat)≤(140737488355328:Nat))∧(procStartK20.L ((({s with Own:=20,Since:=now,Limit:=c.Length}: Procs),[]++ [{Kind:=20,Update:=c.Update,Map:=c.Map,Instant:=c.Instant,Reason:=c.Reason,Rejected:=c.Rejected,Salt:=c.Salt,Mark:=c.Mark,Features:=c.Features,Version:=c.Version,Length:=c.Length:Control}],0)) v)) ((List.length s.Waiting≤(9223372036854775807:Nat))→(cond (decide (8≤(↑(List.length s.Waiting): Int))) (procStartK20.L ((s,[],8)) v) (Ob ((List.length s.Waiting+List.length [{Kind:=20,Update:=c.Update,Map:=c.Map,Instant:=c.Instant,Reason:=c.Reason,Rejected:=c.Rejected,Salt:=c.Salt,Mark:=c.Mark,Features:=c.Features,Version:=c.Version,Length:=c.Length:Control}])* (120:Nat)≤(140737488355328:Nat))∧(procStartK20.L ((({s with Waiting:=s.Waiting ++ [{Kind:=20,Update:=c.Update,Map:=c.Map,Instant:=c.Instant,Reason:=c.Reason,Rejected:=c.Rejected,Salt:=c.Salt,Mark:=c.Mark,Features:=c.Features,Version:=c.Version,Length:=c.Length:Control}]}: Procs),[],0)) v)))))))))))))))))))))))))))))))))))))))))
theorem procStartK20.nf_ok (s:Procs) (c:Control) (event:Int) (now:Int) (v:Procs×(List Control)×Int): evFun (mkCxN Tryz.prog S tab_conEnc 0 [61,62]) 6 9 [Procs.av s,Control.av ({c with Kind:=(20:Int)}: Control), .v (.int .u16 event), .v (.int .i64 now)] [] (fun r' H'=>Gives r' H' (procStartK20.res v) (procStartK20.news v))= procStartK20.nf s c event now v:=by kernel_rfl
theorem procStartK20.key (s:Procs) (c:Control) (event:Int) (now:Int) (hp:s.Waiting.length≤1000∧s.Pending.length≤1000) (v:Procs×(List Control)×Int) (hv:v=procStartK20 s c event now): procStartK20.nf s c event now v:=by
 unfold procStartK20 at hv
 unfold procStartK20.nf
 refine ⟨⟨?_⟩, ?_⟩;rotate_left
 refine ⟨⟨?_⟩, ?_⟩;rotate_left
 revert hv;refine by_cond2 (fun hb hv=>?_) (fun hb hv=>?_)
 subst hv;exact ⟨rfl,rfl⟩
 iterate 5 refine ⟨⟨o3_ok _⟩, ?_⟩
 refine ⟨⟨on_ok _⟩, ?_⟩
 revert hv;refine by_cond2 (fun hb hv=>?_) (fun hb hv=>?_)
 subst hv;exact ⟨rfl,rfl⟩
 refine ⟨⟨o3_ok _⟩, ?_⟩
 refine ⟨⟨on_ok _⟩, ?_⟩
 iterate 4 refine ⟨⟨o3_ok _⟩, ?_⟩
 refine ⟨⟨o2_ok _⟩, ?_⟩
 iterate 6 refine ⟨⟨o3_ok _⟩, ?_⟩
 refine ⟨⟨o2_ok _⟩, ?_⟩
 iterate 9 refine ⟨⟨o3_ok _⟩, ?_⟩
 refine ⟨⟨o2_ok _⟩, ?_⟩
 refine ⟨⟨?_⟩, ?_⟩;rotate_left
 refine ⟨⟨o3_ok _⟩, ?_⟩
 refine ⟨⟨o2_ok _⟩, ?_⟩
 revert hv;refine by_cond2 (fun hb hv=>?_) (fun hb hv=>?_)
 refine ⟨⟨?_⟩, ?_⟩;rotate_left
 subst hv;exact ⟨rfl,rfl⟩
 intro hlen
 revert hv;refine by_cond2 (fun hb hv=>?_) (fun hb hv=>?_)
 subst hv;exact ⟨rfl,rfl⟩
 refine ⟨⟨?_⟩, ?_⟩;rotate_left
 subst hv;exact ⟨rfl,rfl⟩
 all_goals ((try clear hv);(try clear q1 q2);(try clear hk);(first | omega | ((try simp only [decide_eq_true_eq,decide_eq_false_iff_not,Bool.not_eq_true,Bool.not_eq_false,Bool.and_eq_true,Bool.or_eq_true,Bool.not_not,cond_and,cond_or,List.length_append,List.length_cons,List.length_nil] at *);(first | done | ((first | omega | (intros;simp_all [Bool.not_not];done)))))))
def procStartO.res (r:Procs×(List Control)×Int): AV El:=.tup [Procs.av (r.1), .sl 37 (r.2.1:List (El 37)) false, .v (.int .i64 (r.2.2))]
def procStartO.news (r:Procs×(List Control)×Int): List (AObj El):= []
def procStartO.L (e v:Procs×(List Control)×Int): Prop:=procStartO.res e=procStartO.res v∧procStartO.news e=procStartO.news v
def procStartO (s:Procs) (c:Control) (event:Int) (now:Int): Procs×(List Control)×Int:=cond (cProc c.Kind != c.Kind) ((s,[],(12:Int))) ((Procs.zero,[],0))
def procStartO.nf (s:Procs) (c:Control) (event:Int) (now:Int) (v:Procs×(List Control)×Int): Prop:=Ob (List.length s.Waiting*(120:Nat)≤(140737488355328:Nat))∧(Ob (List.length s.Pending*(64:Nat)≤(140737488355328:Nat))∧(cond (cProc c.Kind != c.Kind) (procStartO.L ((s,[],12)) v) (False)))
theorem procStartO.nf_ok (s:Procs) (c:Control) (event:Int) (now:Int) (v:Procs×(List Control)×Int): evFunT (mkCxN Tryz.prog S tab_conEnc 0 [61,62]) rStart 6 9 [Procs.av s,Control.av c, .v (.int .u16 event), .v (.int .i64 now)] [] (fun r' H'=>Gives r' H' (procStartO.res v) (procStartO.news v))= procStartO.nf s c event now v:=by kernel_rfl
theorem procStartO.key (s:Procs) (c:Control) (event:Int) (now:Int) (hp:(cProc c.Kind != c.Kind)= true∧s.Waiting.length≤1000∧s.Pending.length≤1000) (v:Procs×(List Control)×Int) (hv:v=procStartO s c event now): procStartO.nf s c event now v:=by
 unfold procStartO at hv
 unfold procStartO.nf
 refine ⟨⟨?_⟩, ?_⟩;rotate_left
 refine ⟨⟨?_⟩, ?_⟩;rotate_left
 revert hv;refine by_cond2 (fun hb hv=>?_) (fun hb hv=>?_)
 subst hv;exact ⟨rfl,rfl⟩
 exact False.elim (by (try clear hv);(try clear q1 q2);(try clear hk);(simp_all;done))
 all_goals ((try clear hv);(try clear q1 q2);(try clear hk);(omega))
def procStart (s:Procs) (c:Control) (event:Int) (now:Int): Procs×(List Control)×Int:=cond (c.Kind==(-1)) (procStartKM1 s c event now) (cond (c.Kind==0) (procStartK0 s c event now) (cond (c.Kind==1) (procStartK1 s c event now) (cond (c.Kind==2) (procStartK2 s c event now) (cond (c.Kind==3) (procStartK3 s c event now) (cond (c.Kind==8) (procStartK8 s c event now) (cond (c.Kind==12) (procStartK12 s c event now) (cond (c.Kind==15) (procStartK15 s c event now) (cond (c.Kind==18) (procStartK18 s c event now) (cond (c.Kind==20) (procStartK20 s c event now) (procStartO s c event now))))))))))
def procStart.res (r:Procs×(List Control)×Int): AV El:=procStartKM1.res r
def procStart.news (r:Procs×(List Control)×Int): List (AObj El):= procStartKM1.news r
def procStart.dec (cs:List (AV El)): Option (Procs×Control×Int×Int):= popA Procs.dec cs fun a0 c0=>popA Control.dec c0 fun a1 c1=>popI .u16 c1 fun a2 c2=>popI .i64 c2 fun a3 c3=>popE c3 (a0,a1,a2,a3)
def procStart.enc (x:Procs×Control×Int×Int): List (AV El):= [Procs.av x.1,Control.av x.2.1, .v (.int .u16 x.2.2.1), .v (.int .i64 x.2.2.2)]
theorem procStart.dec_ok : ∀cs x,procStart.dec cs=some x→Imp (S:=S) cs (procStart.enc x):= by
 intro cs x h
 unfold procStart.dec at h
 obtain ⟨a0,c0,h0,k0⟩:= popA_some (S:=S) Procs.dec_ok h
 obtain ⟨a1,c1,h1,k1⟩:= popA_some (S:=S) Control.dec_ok h0
 obtain ⟨a2,c2,rfl,h2⟩:= popI_some (S:=S) h1
 obtain ⟨a3,c3,rfl,h3⟩:= popI_some (S:=S) h2
 obtain ⟨rfl,rfl⟩:= popE_some (S:=S) h3
 exact (k0 _ (k1 _ (.cons (.cons (.refl _)))))
theorem procStart.run (s:Procs) (c:Control) (event:Int) (now:Int) (hp:s.Waiting.length≤1000∧s.Pending.length≤1000) (v:Procs×(List Control)×Int) (hv:v=procStart s c event now): evFun (mkCxN Tryz.prog S tab_conEnc 0 [61,62]) 7 9 [Procs.av s,Control.av c, .v (.int .u16 event), .v (.int .i64 now)] [] (fun r' H'=>Gives r' H' (procStart.res v) (procStart.news v)):= by
 unfold procStart at hv
 cases hM1:(c.Kind==(-1:Int)) with
 | true =>
  rw [hM1,cond_true] at hv
  have hc:({c with Kind:=(-1:Int)}: Control)= c:=by cases c;have:=eq_of_beq hM1;dsimp only at this;subst this;rfl
  have hr:=(procStartKM1.nf_ok s c event now v).mpr (procStartKM1.key s c event now hp v hv)
  rw [hc] at hr
  exact evFun_up _ _ _ _ _ _ hr
 | false =>
 rw [hM1,cond_false] at hv
 cases h0:(c.Kind==(0:Int)) with
 | true =>
  rw [h0,cond_true] at hv
  have hc:({c with Kind:=(0:Int)}: Control)= c:=by cases c;have:=eq_of_beq h0;dsimp only at this;subst this;rfl
  have hr:=(procStartK0.nf_ok s c event now v).mpr (procStartK0.key s c event now hp v hv)
  rw [hc] at hr
  exact evFun_up _ _ _ _ _ _ hr
 | false =>
 rw [h0,cond_false] at hv
 cases h1:(c.Kind==(1:Int)) with
 | true =>
  rw [h1,cond_true] at hv
  have hc:({c with Kind:=(1:Int)}: Control)= c:=by cases c;have:=eq_of_beq h1;dsimp only at this;subst this;rfl
  have hr:=(procStartK1.nf_ok s c event now v).mpr (procStartK1.key s c event now hp v hv)
  rw [hc] at hr
  exact evFun_up _ _ _ _ _ _ hr
 | false =>
 rw [h1,cond_false] at hv
 cases h2:(c.Kind==(2:Int)) with
 | true =>
  rw [h2,cond_true] at hv
  have hc:({c with Kind:=(2:Int)}: Control)= c:=by cases c;have:=eq_of_beq h2;dsimp only at this;subst this;rfl
  have hr:=(procStartK2.nf_ok s c event now v).mpr (procStartK2.key s c event now hp v hv)
  rw [hc] at hr
  exact evFun_up _ _ _ _ _ _ hr
 | false =>
 rw [h2,cond_false] at hv
 cases h3:(c.Kind==(3:Int)) with
 | true =>
  rw [h3,cond_true] at hv
  have hc:({c with Kind:=(3:Int)}: Control)= c:=by cases c;have:=eq_of_beq h3;dsimp only at this;subst this;rfl
  have hr:=(procStartK3.nf_ok s c event now v).mpr (procStartK3.key s c event now hp v hv)
  rw [hc] at hr
  exact evFun_up _ _ _ _ _ _ hr
 | false =>
 rw [h3,cond_false] at hv
 cases h8:(c.Kind==(8:Int)) with
 | true =>
  rw [h8,cond_true] at hv
  have hc:({c with Kind:=(8:Int)}: Control)= c:=by cases c;have:=eq_of_beq h8;dsimp only at this;subst this;rfl
  have hr:=(procStartK8.nf_ok s c event now v).mpr (procStartK8.key s c event now hp v hv)
  rw [hc] at hr
  exact evFun_up _ _ _ _ _ _ hr
 | false =>
 rw [h8,cond_false] at hv
 cases h12:(c.Kind==(12:Int)) with
 | true =>
  rw [h12,cond_true] at hv
  have hc:({c with Kind:=(12:Int)}: Control)= c:=by cases c;have:=eq_of_beq h12;dsimp only at this;subst this;rfl
  have hr:=(procStartK12.nf_ok s c event now v).mpr (procStartK12.key s c event now hp v hv)
  rw [hc] at hr
  exact evFun_up _ _ _ _ _ _ hr
 | false =>
 rw [h12,cond_false] at hv
 cases h15:(c.Kind==(15:Int)) with
 | true =>
  rw [h15,cond_true] at hv
  have hc:({c with Kind:=(15:Int)}: Control)= c:=by cases c;have:=eq_of_beq h15;dsimp only at this;subst this;rfl
  have hr:=(procStartK15.nf_ok s c event now v).mpr (procStartK15.key s c event now hp v hv)
  rw [hc] at hr
  exact evFun_up _ _ _ _ _ _ hr
 | false =>
 rw [h15,cond_false] at hv
 cases h18:(c.Kind==(18:Int)) with
 | true =>
  rw [h18,cond_true] at hv
  have hc:({c with Kind:=(18:Int)}: Control)= c:=by cases c;have:=eq_of_beq h18;dsimp only at this;subst this;rfl
  have hr:=(procStartK18.nf_ok s c event now v).mpr (procStartK18.key s c event now hp v hv)
  rw [hc] at hr
  exact evFun_up _ _ _ _ _ _ hr
 | false =>
 rw [h18,cond_false] at hv
 cases h20:(c.Kind==(20:Int)) with
 | true =>
  rw [h20,cond_true] at hv
  have hc:({c with Kind:=(20:Int)}: Control)= c:=by cases c;have:=eq_of_beq h20;dsimp only at this;subst this;rfl
  have hr:=(procStartK20.nf_ok s c event now v).mpr (procStartK20.key s c event now hp v hv)
  rw [hc] at hr
  exact evFun_up _ _ _ _ _ _ hr
 | false =>
 rw [h20,cond_false] at hv
 exact evFunT_le 1 (fun f L h=>by unfold rStart at h;cases hb:Nat.beq f 31 <;> rw [hb] at h <;> cases h;exact fun _ _ _ k=>k.elim) 6 _ _ _ _ ((procStartO.nf_ok s c event now v).mpr (procStartO.key s c event now ⟨cProc_ne _ hM1 h0 h1 h2 h3 h8 h12 h15 h18 h20,hp⟩ v hv))
def procStart.ct:Ct El:=ctOf procStart.dec (fun x=>[x.1.Waiting.length≤1000∧x.1.Pending.length≤1000]) (fun x=>procStart.res (procStart x.1 x.2.1 x.2.2.1 x.2.2.2)) (fun x=>procStart.news (procStart x.1 x.2.1 x.2.2.1 x.2.2.2))
theorem procStart.ok:CtOk (mkCx Tryz.prog S [] 0) 9 procStart.ct:=ct_mk (C:=(mkCxN Tryz.prog S tab_conEnc 0 [61,62])) (mkCxN_ok sigOk mixed tab_conEnc_ok 0 [61,62]) procStart.dec_ok (fun x=>rfl) 7 (fun x hp=>procStart.run x.1 x.2.1 x.2.2.1 x.2.2.2 (hp _ (List.mem_singleton.2 rfl)) _ rfl)
def tab_procStart:List (FuncId×Ct El):= (9,procStart.ct):: tab_conEnc
theorem tab_procStart_ok:TabOk Tryz.prog S tab_procStart:=⟨procStart.ok,by kernel_rfl,tab_conEnc_ok⟩
end Go.Aw.W
