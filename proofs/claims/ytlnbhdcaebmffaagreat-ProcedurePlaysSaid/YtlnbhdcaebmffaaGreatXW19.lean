/- Contracts of the seat (printed by ct.py). -/
import Derived.Test.YtlnbhdcaebmffaaGreatXW18
set_option linter.unusedVariables false
set_option linter.unusedSimpArgs false
set_option maxRecDepth 20000
set_option maxHeartbeats 1000000
namespace Go.Aw.W
open Go Go.Aw Go.Proofs
attribute [local irreducible] evCode evFun evOps evDs evOne ctxK loopK loopB subC bodyC headS okH roundK
attribute [local irreducible] cCheck
def r28begin.res (r:Procs×Control): AV El:=.tup [Procs.av (r.1),Control.av (r.2)]
def r28begin.news (r:Procs×Control): List (AObj El):= []
def r28begin.L (e v:Procs×Control): Prop:=r28begin.res e=r28begin.res v∧r28begin.news e=r28begin.news v
def r28begin (s:Procs) (c:Control) (event:Int) (now:Int): Procs×Control:=cond (c.Kind==0) (cond ((r27Add s.Pending event (r28change {Kind:=c.Kind,Update:=c.Update,Map:=c.Map,Instant:=r27Plan event 0,Reason:=c.Reason,Rejected:=c.Rejected,Salt:=c.Salt,Mark:=c.Mark,Features:=c.Features,Version:=c.Version,Length:=c.Length:Control})).snd==0) (cond (bif c.Kind==0 then s.Other==15 else false) ((({s with Own:=c.Kind,Since:=now,Other:=(-1),Pending:=(r27Add s.Pending event (r28change {Kind:=c.Kind,Update:=c.Update,Map:=c.Map,Instant:=r27Plan event 0,Reason:=c.Reason,Rejected:=c.Rejected,Salt:=c.Salt,Mark:=c.Mark,Features:=c.Features,Version:=c.Version,Length:=c.Length:Control})).fst,Told:=false}: Procs),({c with Instant:=r27Plan event 0}: Control))) ((({s with Own:=c.Kind,Since:=now,Pending:=(r27Add s.Pending event (r28change {Kind:=c.Kind,Update:=c.Update,Map:=c.Map,Instant:=r27Plan event 0,Reason:=c.Reason,Rejected:=c.Rejected,Salt:=c.Salt,Mark:=c.Mark,Features:=c.Features,Version:=c.Version,Length:=c.Length:Control})).fst,Told:=false}: Procs),({c with Instant:=r27Plan event 0}: Control)))) (cond (bif c.Kind==0 then s.Other==15 else false) ((({s with Own:=c.Kind,Since:=now,Other:=(-1),Told:=false}: Procs),({c with Instant:=r27Plan event 0}: Control))) ((({s with Own:=c.Kind,Since:=now,Told:=false}: Procs),({c with Instant:=r27Plan event 0}: Control))))) (cond (c.Kind==1) (cond ((r27Add s.Pending event (r28change {Kind:=c.Kind,Update:=c.Update,Map:=c.Map,Instant:=r27Plan event 0,Reason:=c.Reason,Rejected:=c.Rejected,Salt:=c.Salt,Mark:=c.Mark,Features:=c.Features,Version:=c.Version,Length:=c.Length:Control})).snd==0) (cond (bif c.Kind==0 then s.Other==15 else false) ((({s with Own:=c.Kind,Since:=now,Other:=(-1),Pending:=(r27Add s.Pending event (r28change {Kind:=c.Kind,Update:=c.Update,Map:=c.Map,Instant:=r27Plan event 0,Reason:=c.Reason,Rejected:=c.Rejected,Salt:=c.Salt,Mark:=c.Mark,Features:=c.Features,Version:=c.Version,Length:=c.Length:Control})).fst,Told:=false}: Procs),({c with Instant:=r27Plan event 0}: Control))) ((({s with Own:=c.Kind,Since:=now,Pending:=(r27Add s.Pending event (r28change {Kind:=c.Kind,Update:=c.Update,Map:=c.Map,Instant:=r27Plan event 0,Reason:=c.Reason,Rejected:=c.Rejected,Salt:=c.Salt,Mark:=c.Mark,Features:=c.Features,Version:=c.Version,Length:=c.Length:Control})).fst,Told:=false}: Procs),({c with Instant:=r27Plan event 0}: Control)))) (cond (bif c.Kind==0 then s.Other==15 else false) ((({s with Own:=c.Kind,Since:=now,Other:=(-1),Told:=false}: Procs),({c with Instant:=r27Plan event 0}: Control))) ((({s with Own:=c.Kind,Since:=now,Told:=false}: Procs),({c with Instant:=r27Plan event 0}: Control))))) (cond (c.Kind==3) ((({s with Own:=c.Kind,Since:=now,Salt:=c.Salt,Mark:=c.Mark,Crypt:=1}: Procs),c)) (cond (c.Kind==12) ((({s with Own:=c.Kind,Since:=now,VersionTx:=true}: Procs),c)) (cond (c.Kind==20) ((({s with Own:=c.Kind,Since:=now,Limit:=c.Length}: Procs),c)) ((({s with Own:=c.Kind,Since:=now}: Procs),c))))))
def r28begin.dec (cs:List (AV El)): Option (Procs×Control×Int×Int):= popA Procs.dec cs fun a0 c0=>popA Control.dec c0 fun a1 c1=>popI .u16 c1 fun a2 c2=>popI .i64 c2 fun a3 c3=>popE c3 (a0,a1,a2,a3)
def r28begin.enc (x:Procs×Control×Int×Int): List (AV El):= [Procs.av x.1,Control.av x.2.1, .v (.int .u16 x.2.2.1), .v (.int .i64 x.2.2.2)]
theorem r28begin.dec_ok : ∀cs x,r28begin.dec cs=some x→Imp (S:=S) cs (r28begin.enc x):= by
 intro cs x h
 unfold r28begin.dec at h
 obtain ⟨a0,c0,h0,k0⟩:= popA_some (S:=S) Procs.dec_ok h
 obtain ⟨a1,c1,h1,k1⟩:= popA_some (S:=S) Control.dec_ok h0
 obtain ⟨a2,c2,rfl,h2⟩:= popI_some (S:=S) h1
 obtain ⟨a3,c3,rfl,h3⟩:= popI_some (S:=S) h2
 obtain ⟨rfl,rfl⟩:= popE_some (S:=S) h3
 exact (k0 _ (k1 _ (.cons (.cons (.refl _)))))
def r28begin.nf (s:Procs) (c:Control) (event:Int) (now:Int) (v:Procs×Control): Prop:=cond (c.Kind==0) (Ob (List.length s.Pending≤(1000:Nat))∧(cond ((r27Add s.Pending event (r28change {Kind:=c.Kind,Update:=c.Update,Map:=c.Map,Instant:=r27Plan event 0,Reason:=c.Reason,Rejected:=c.Rejected,Salt:=c.Salt,Mark:=c.Mark,Features:=c.Features,Version:=c.Version,Length:=c.Length:Control})).snd==0) (Ob (o3 (c.Kind==0))∧(Ob (o3 (c.Kind==0))∧(Ob (o2 (c.Kind==0))∧(cond (bif c.Kind==0 then s.Other==15 else false) (r28begin.L ((({s with Own:=c.Kind,Since:=now,Other:=(-1),Pending:=(r27Add s.Pending event (r28change {Kind:=c.Kind,Update:=c.Update,Map:=c.Map,Instant:=r27Plan event 0,Reason:=c.Reason,Rejected:=c.Rejected,Salt:=c.Salt,Mark:=c.Mark,Features:=c.Features,Version:=c.Version,Length:=c.Length:Control})).fst,Told:=false}: Procs),({c with Instant:=r27Plan event 0}: Control))) v) (r28begin.L ((({s with Own:=c.Kind,Since:=now,Pending:=(r27Add s.Pending event (r28change {Kind:=c.Kind,Update:=c.Update,Map:=c.Map,Instant:=r27Plan event 0,Reason:=c.Reason,Rejected:=c.Rejected,Salt:=c.Salt,Mark:=c.Mark,Features:=c.Features,Version:=c.Version,Length:=c.Length:Control})).fst,Told:=false}: Procs),({c with Instant:=r27Plan event 0}: Control))) v))))) (Ob (o3 (c.Kind==0))∧(Ob (o3 (c.Kind==0))∧(Ob (o2 (c.Kind==0))∧(cond (bif c.Kind==0 then s.Other==15 else false) (r28begin.L ((({s with Own:=c.Kind,Since:=now,Other:=(-1),Told:=false}: Procs),({c with Instant:=r27Plan event 0}: Control))) v) (r28begin.L ((({s with Own:=c.Kind,Since:=now,Told:=false}: Procs),({c with Instant:=r27Plan event 0}: Control))) v))))))) (cond (c.Kind==1) (Ob (List.length s.Pending≤(1000:Nat))∧(cond ((r27Add s.Pending event (r28change {Kind:=c.Kind,Update:=c.Update,Map:=c.Map,Instant:=r27Plan event 0,Reason:=c.Reason,Rejected:=c.Rejected,Salt:=c.Salt,Mark:=c.Mark,Features:=c.Features,Version:=c.Version,Length:=c.Length:Control})).snd==0) (Ob (o3 (c.Kind==0))∧(Ob (o3 (c.Kind==0))∧(Ob (o2 (c.Kind==0))∧(cond (bif c.Kind==0 then s.Other==15 else false) (r28begin.L ((({s with Own:=c.Kind,Since:=now,Other:=(-1),Pending:=(r27Add s.Pending event (r28change {Kind:=c.Kind,Update:=c.Update,Map:=c.Map,Instant:=r27Plan event 0,Reason:=c.Reason,Rejected:=c.Rejected,Salt:=c.Salt,Mark:=c.Mark,Features:=c.Features,Version:=c.Version,Length:=c.Length:Control})).fst,Told:=false}: Procs),({c with Instant:=r27Plan event 0}: Control))) v) (r28begin.L ((({s with Own:=c.Kind,Since:=now,Pending:=(r27Add s.Pending event (r28change {Kind:=c.Kind,Update:=c.Update,Map:=c.Map,Instant:=r27Plan event 0,Reason:=c.Reason,Rejected:=c.Rejected,Salt:=c.Salt,Mark:=c.Mark,Features:=c.Features,Version:=c.Version,Length:=c.Length:Control})).fst,Told:=false}: Procs),({c with Instant:=r27Plan event 0}: Control))) v))))) (Ob (o3 (c.Kind==0))∧(Ob (o3 (c.Kind==0))∧(Ob (o2 (c.Kind==0))∧(cond (bif c.Kind==0 then s.Other==15 else false) (r28begin.L ((({s with Own:=c.Kind,Since:=now,Other:=(-1),Told:=false}: Procs),({c with Instant:=r27Plan event 0}: Control))) v) (r28begin.L ((({s with Own:=c.Kind,Since:=now,Told:=false}: Procs),({c with Instant:=r27Plan event 0}: Control))) v))))))) (cond (c.Kind==3) (r28begin.L ((({s with Own:=c.Kind,Since:=now,Salt:=c.Salt,Mark:=c.Mark,Crypt:=1}: Procs),c)) v) (cond (c.Kind==12) (r28begin.L ((({s with Own:=c.Kind,Since:=now,VersionTx:=true}: Procs),c)) v) (cond (c.Kind==20) (r28begin.L ((({s with Own:=c.Kind,Since:=now,Limit:=c.Length}: Procs),c)) v) (r28begin.L ((({s with Own:=c.Kind,Since:=now}: Procs),c)) v)))))
theorem r28begin.nf_ok (s:Procs) (c:Control) (event:Int) (now:Int) (v:Procs×Control): evFun (mkCx Tryz.prog S tab_r28waits 0) 4 42 [Procs.av s,Control.av c, .v (.int .u16 event), .v (.int .i64 now)] [] (fun r' H'=>Gives r' H' (r28begin.res v) (r28begin.news v))= r28begin.nf s c event now v:=by kernel_rfl
theorem r28begin.key (s:Procs) (c:Control) (event:Int) (now:Int) (hp:s.Pending.length≤1000) (v:Procs×Control) (hv:v=r28begin s c event now): r28begin.nf s c event now v:=by
 unfold r28begin at hv
 unfold r28begin.nf
 revert hv;refine by_cond2 (fun hb hv=>?_) (fun hb hv=>?_)
 refine ⟨⟨?_⟩, ?_⟩;rotate_left
 revert hv;refine by_cond2 (fun hb hv=>?_) (fun hb hv=>?_)
 iterate 2 refine ⟨⟨o3_ok _⟩, ?_⟩
 refine ⟨⟨o2_ok _⟩, ?_⟩
 revert hv;refine by_cond2 (fun hb hv=>?_) (fun hb hv=>?_)
 subst hv;exact ⟨rfl,rfl⟩
 subst hv;exact ⟨rfl,rfl⟩
 iterate 2 refine ⟨⟨o3_ok _⟩, ?_⟩
 refine ⟨⟨o2_ok _⟩, ?_⟩
 revert hv;refine by_cond2 (fun hb hv=>?_) (fun hb hv=>?_)
 subst hv;exact ⟨rfl,rfl⟩
 subst hv;exact ⟨rfl,rfl⟩
 revert hv;refine by_cond2 (fun hb hv=>?_) (fun hb hv=>?_)
 refine ⟨⟨?_⟩, ?_⟩;rotate_left
 revert hv;refine by_cond2 (fun hb hv=>?_) (fun hb hv=>?_)
 iterate 2 refine ⟨⟨o3_ok _⟩, ?_⟩
 refine ⟨⟨o2_ok _⟩, ?_⟩
 revert hv;refine by_cond2 (fun hb hv=>?_) (fun hb hv=>?_)
 subst hv;exact ⟨rfl,rfl⟩
 subst hv;exact ⟨rfl,rfl⟩
 iterate 2 refine ⟨⟨o3_ok _⟩, ?_⟩
 refine ⟨⟨o2_ok _⟩, ?_⟩
 revert hv;refine by_cond2 (fun hb hv=>?_) (fun hb hv=>?_)
 subst hv;exact ⟨rfl,rfl⟩
 subst hv;exact ⟨rfl,rfl⟩
 revert hv;refine by_cond2 (fun hb hv=>?_) (fun hb hv=>?_)
 subst hv;exact ⟨rfl,rfl⟩
 revert hv;refine by_cond2 (fun hb hv=>?_) (fun hb hv=>?_)
 subst hv;exact ⟨rfl,rfl⟩
 revert hv;refine by_cond2 (fun hb hv=>?_) (fun hb hv=>?_)
 subst hv;exact ⟨rfl,rfl⟩
 subst hv;exact ⟨rfl,rfl⟩
 all_goals ((try clear hv);(try clear q1 q2);(try clear hk);(omega))
def r28begin.ct:Ct El:=ctOf r28begin.dec (fun x=>[x.1.Pending.length≤1000]) (fun x=>r28begin.res (r28begin x.1 x.2.1 x.2.2.1 x.2.2.2)) (fun x=>r28begin.news (r28begin x.1 x.2.1 x.2.2.1 x.2.2.2))
theorem r28begin.ok:CtOk (mkCx Tryz.prog S [] 0) 42 r28begin.ct:=ct_mk (C:=(mkCx Tryz.prog S tab_r28waits 0)) (mkCx_ok sigOk mixed tab_r28waits_ok 0) r28begin.dec_ok (fun x=>rfl) 4 (fun x hp=>(r28begin.nf_ok x.1 x.2.1 x.2.2.1 x.2.2.2 _).mpr (r28begin.key x.1 x.2.1 x.2.2.1 x.2.2.2 (hp _ (List.mem_singleton.2 rfl)) _ rfl))
def tab_r28begin:List (FuncId×Ct El):= (42,r28begin.ct):: tab_r28waits
theorem tab_r28begin_ok:TabOk Tryz.prog S tab_r28begin:=⟨r28begin.ok,by kernel_rfl,tab_r28waits_ok⟩
def r28allowed.res (r:Bool): AV El:=.v (.bool (r))
def r28allowed.news (r:Bool): List (AObj El):= []
def r28allowed.L (e v:Bool): Prop:=r28allowed.res e=r28allowed.res v∧r28allowed.news e=r28allowed.news v
def r28allowed (s:Procs) (kind:Int): Bool:=cond (bif s.Ended != 0 then true else s.Own==2) (false) (cond (bif bif bif r28timed kind then true else kind==3 then s.Role != 0 else false then true else bif kind==15 then s.Role != 1 else false) (false) (bif kind != 3 then true else bif s.Crypt==0 then !r28waits s 3 else false))
def r28allowed.dec (cs:List (AV El)): Option (Procs×Int):= popA Procs.dec cs fun a0 c0=>popI .i64 c0 fun a1 c1=>popE c1 (a0,a1)
def r28allowed.enc (x:Procs×Int): List (AV El):= [Procs.av x.1, .v (.int .i64 x.2)]
theorem r28allowed.dec_ok : ∀cs x,r28allowed.dec cs=some x→Imp (S:=S) cs (r28allowed.enc x):= by
 intro cs x h
 unfold r28allowed.dec at h
 obtain ⟨a0,c0,h0,k0⟩:= popA_some (S:=S) Procs.dec_ok h
 obtain ⟨a1,c1,rfl,h1⟩:= popI_some (S:=S) h0
 obtain ⟨rfl,rfl⟩:= popE_some (S:=S) h1
 exact (k0 _ (.cons (.refl _)))
def r28allowed.nf (s:Procs) (kind:Int) (v:Bool): Prop:=Ob (o3 (!s.Ended != 0))∧(Ob (o3 (!s.Ended != 0))∧(Ob (on (s.Ended != 0))∧(cond (bif s.Ended != 0 then true else s.Own==2) (r28allowed.L (false) v) (Ob (o3 (!r28timed kind))∧(Ob (on (r28timed kind))∧(Ob (o3 (bif r28timed kind then true else kind==3))∧(Ob (o3 (bif r28timed kind then true else kind==3))∧(Ob (o2 (bif r28timed kind then true else kind==3))∧(Ob (o3 (!bif bif r28timed kind then true else kind==3 then s.Role != 0 else false))∧(Ob (o3 (!bif bif r28timed kind then true else kind==3 then s.Role != 0 else false))∧(Ob (o3 ((!bif bif r28timed kind then true else kind==3 then s.Role != 0 else false) && kind==15))∧(Ob (o3 ((!bif bif r28timed kind then true else kind==3 then s.Role != 0 else false) && kind==15))∧(Ob (o2 (!bif bif r28timed kind then true else kind==3 then s.Role != 0 else false))∧(Ob ((!bif bif r28timed kind then true else kind==3 then s.Role != 0 else false)= true→(kind==15)= true→((!bif bif r28timed kind then true else kind==3 then s.Role != 0 else false) && kind==15)= true)∧(Ob (on (bif bif r28timed kind then true else kind==3 then s.Role != 0 else false))∧(cond (bif bif bif r28timed kind then true else kind==3 then s.Role != 0 else false then true else bif kind==15 then s.Role != 1 else false) (r28allowed.L (false) v) (Ob (o3 (!kind != 3))∧(Ob (o3 (!kind != 3))∧(Ob (o3 (!kind != 3))∧(Ob (o3 (!kind != 3 && s.Crypt==0))∧(Ob ((!kind != 3 && s.Crypt==0)= true→List.length s.Waiting≤(1000:Nat))∧(Ob (o3 (!kind != 3 && s.Crypt==0))∧(Ob (o2 (!kind != 3))∧(Ob ((!kind != 3)= true→(s.Crypt==0)= true→(!kind != 3 && s.Crypt==0)= true)∧(Ob (on (kind != 3))∧(r28allowed.L (bif kind != 3 then true else bif s.Crypt==0 then !r28waits s 3 else false) v))))))))))))))))))))))))))
theorem r28allowed.nf_ok (s:Procs) (kind:Int) (v:Bool): evFun (mkCx Tryz.prog S tab_r28waits 0) 4 40 [Procs.av s, .v (.int .i64 kind)] [] (fun r' H'=>Gives r' H' (r28allowed.res v) (r28allowed.news v))= r28allowed.nf s kind v:=by kernel_rfl
theorem r28allowed.key (s:Procs) (kind:Int) (hp:s.Waiting.length≤1000) (v:Bool) (hv:v=r28allowed s kind): r28allowed.nf s kind v:=by
 unfold r28allowed at hv
 unfold r28allowed.nf
 iterate 2 refine ⟨⟨o3_ok _⟩, ?_⟩
 refine ⟨⟨on_ok _⟩, ?_⟩
 revert hv;refine by_cond2 (fun hb hv=>?_) (fun hb hv=>?_)
 subst hv;exact ⟨rfl,rfl⟩
 refine ⟨⟨o3_ok _⟩, ?_⟩
 refine ⟨⟨on_ok _⟩, ?_⟩
 iterate 2 refine ⟨⟨o3_ok _⟩, ?_⟩
 refine ⟨⟨o2_ok _⟩, ?_⟩
 iterate 4 refine ⟨⟨o3_ok _⟩, ?_⟩
 refine ⟨⟨o2_ok _⟩, ?_⟩
 refine ⟨⟨?_⟩, ?_⟩;rotate_left
 refine ⟨⟨on_ok _⟩, ?_⟩
 revert hv;refine by_cond2 (fun hb hv=>?_) (fun hb hv=>?_)
 subst hv;exact ⟨rfl,rfl⟩
 iterate 4 refine ⟨⟨o3_ok _⟩, ?_⟩
 refine ⟨⟨?_⟩, ?_⟩;rotate_left
 refine ⟨⟨o3_ok _⟩, ?_⟩
 refine ⟨⟨o2_ok _⟩, ?_⟩
 refine ⟨⟨?_⟩, ?_⟩;rotate_left
 refine ⟨⟨on_ok _⟩, ?_⟩
 subst hv;exact ⟨rfl,rfl⟩
 all_goals ((try clear hv);(try clear q1 q2);(try clear hk);(first | omega | ((try simp only [decide_eq_true_eq,decide_eq_false_iff_not,Bool.not_eq_true,Bool.not_eq_false,Bool.and_eq_true,Bool.or_eq_true,Bool.not_not,cond_and,cond_or,List.length_append,List.length_cons,List.length_nil] at *);(first | done | ((first | omega | (intros;(try simp only [Bool.not_not,cond_and,cond_or,Bool.and_eq_true,decide_eq_true_eq] at *);(exact band_nn rfl _ _))| (intros;(try simp only [Bool.not_not,cond_and,cond_or,Bool.and_eq_true,decide_eq_true_eq] at *);(exact (wu64s _).2.1))| (intros;(try simp only [Bool.not_not,cond_and,cond_or,Bool.and_eq_true,decide_eq_true_eq] at *);(simp only [Bool.or_eq_false_iff,Bool.and_eq_false_iff,decide_eq_false_iff_not,decide_eq_true_eq,bne_iff_ne,beq_iff_eq,bne_eq_false_iff_eq,beq_eq_false_iff_ne,ne_eq,true_and] at *;omega))| (intros;(try simp only [Bool.not_not,cond_and,cond_or,Bool.and_eq_true,decide_eq_true_eq] at *);(simp only [List.length_drop,List.length_take,List.length_append,List.length_cons,List.length_nil] at *;omega))| (intros;(try simp only [Bool.not_not,cond_and,cond_or,Bool.and_eq_true,decide_eq_true_eq] at *);exact r1Power_ne (by omega) (by omega))| (intros;omega)| (intros;simp only [Bool.not_not,cond_and,cond_or,Bool.and_eq_true,decide_eq_true_eq] at *;omega)| (intros;simp_all [Bool.not_not];done)))))))
def r28allowed.ct:Ct El:=ctOf r28allowed.dec (fun x=>[x.1.Waiting.length≤1000]) (fun x=>r28allowed.res (r28allowed x.1 x.2)) (fun x=>r28allowed.news (r28allowed x.1 x.2))
theorem r28allowed.ok:CtOk (mkCx Tryz.prog S [] 0) 40 r28allowed.ct:=ct_mk (C:=(mkCx Tryz.prog S tab_r28waits 0)) (mkCx_ok sigOk mixed tab_r28waits_ok 0) r28allowed.dec_ok (fun x=>rfl) 4 (fun x hp=>(r28allowed.nf_ok x.1 x.2 _).mpr (r28allowed.key x.1 x.2 (hp _ (List.mem_singleton.2 rfl)) _ rfl))
def tab_r28allowed:List (FuncId×Ct El):= (40,r28allowed.ct):: tab_r28begin
theorem tab_r28allowed_ok:TabOk Tryz.prog S tab_r28allowed:=⟨r28allowed.ok,by kernel_rfl,tab_r28begin_ok⟩
end Go.Aw.W
