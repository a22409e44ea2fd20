/- Contracts of the seat (printed by ct.py). -/
import Derived.Test.YtlnbhdcaebmffaaGreatXW23
set_option linter.unusedVariables false
set_option linter.unusedSimpArgs false
set_option maxRecDepth 20000
set_option maxHeartbeats 1000000
namespace Go.Aw.W
open Go Go.Aw Go.Proofs
attribute [local irreducible] evCode evFun evOps evDs evOne ctxK loopK loopB subC bodyC headS okH roundK
attribute [local irreducible] cCheck r26Check procStart procHandle procReady procDue procAnswer procSent r28Start r28Handle r28Ready r28Due r28Answer r28Sent sameControls sameInds sameChanges procQuiet procExpired r28Quiet r28Expired
def play.res (r:Procs×Procs×Bool): AV El:=.tup [Procs.av (r.1),Procs.av (r.2.1), .v (.bool (r.2.2))]
def play.news (r:Procs×Procs×Bool): List (AObj El):= []
def play.L (e v:Procs×Procs×Bool): Prop:=play.res e=play.res v∧play.news e=play.news v
def play (s:Procs) (t:Procs) (p2:Law28Step) (event:Int) (now:Int): Procs×Procs×Bool:=cond (p2.Call==0) (((procStart s p2.Control event now).fst,(r28Start t p2.Control event now).fst,bif (procStart s p2.Control event now).snd.snd==(r28Start t p2.Control event now).snd.snd then sameControls (procStart s p2.Control event now).snd.fst (r28Start t p2.Control event now).snd.fst else false)) (cond (p2.Call==1) (((procReady s event now).fst,(r28Ready t event now).fst,sameControls (procReady s event now).snd (r28Ready t event now).snd)) (cond (p2.Call==2) (cond (bif r26Check p2.Control != 0 then r26Check p2.Control != 12 else false) ((s,t,true)) (((procHandle s p2.Control event now).fst,(r28Handle t p2.Control event now).fst,bif sameControls (procHandle s p2.Control event now).snd.fst (r28Handle t p2.Control event now).snd.fst then sameInds (procHandle s p2.Control event now).snd.snd (r28Handle t p2.Control event now).snd.snd else false))) (cond (p2.Call==3) (((procAnswer s p2.Found p2.Salt).fst,(r28Answer t p2.Found p2.Salt).fst,sameControls (procAnswer s p2.Found p2.Salt).snd (r28Answer t p2.Found p2.Salt).snd)) (cond (p2.Call==4) (((procSent s p2.Control).fst,(r28Sent t p2.Control).fst,sameInds (procSent s p2.Control).snd (r28Sent t p2.Control).snd)) (cond (p2.Call==5) (((procDue s event).fst,(r28Due t event).fst,sameChanges (procDue s event).snd (r28Due t event).snd)) ((s,t,bif procQuiet s==r28Quiet t then procExpired s now==r28Expired t now else false)))))))
def play.dec (cs:List (AV El)): Option (Procs×Procs×Law28Step×Int×Int):= popA Procs.dec cs fun a0 c0=>popA Procs.dec c0 fun a1 c1=>popA Law28Step.dec c1 fun a2 c2=>popI .u16 c2 fun a3 c3=>popI .i64 c3 fun a4 c4=>popE c4 (a0,a1,a2,a3,a4)
def play.enc (x:Procs×Procs×Law28Step×Int×Int): List (AV El):= [Procs.av x.1,Procs.av x.2.1,Law28Step.av x.2.2.1, .v (.int .u16 x.2.2.2.1), .v (.int .i64 x.2.2.2.2)]
theorem play.dec_ok : ∀cs x,play.dec cs=some x→Imp (S:=S) cs (play.enc x):= by
 intro cs x h
 unfold play.dec at h
 obtain ⟨a0,c0,h0,k0⟩:= popA_some (S:=S) Procs.dec_ok h
 obtain ⟨a1,c1,h1,k1⟩:= popA_some (S:=S) Procs.dec_ok h0
 obtain ⟨a2,c2,h2,k2⟩:= popA_some (S:=S) Law28Step.dec_ok h1
 obtain ⟨a3,c3,rfl,h3⟩:= popI_some (S:=S) h2
 obtain ⟨a4,c4,rfl,h4⟩:= popI_some (S:=S) h3
 obtain ⟨rfl,rfl⟩:= popE_some (S:=S) h4
 exact (k0 _ (k1 _ (k2 _ (.cons (.cons (.refl _))))))
def play.nf (s:Procs) (t:Procs) (p2:Law28Step) (event:Int) (now:Int) (v:Procs×Procs×Bool): Prop:=cond (p2.Call==0) (Ob (List.length s.Waiting≤(1000:Nat)∧List.length s.Pending≤(1000:Nat))∧(Ob (List.length t.Waiting≤(1000:Nat)∧List.length t.Pending≤(1000:Nat))∧(Ob (o3 ((procStart s p2.Control event now).snd.snd==(r28Start t p2.Control event now).snd.snd))∧(Ob (o3 ((procStart s p2.Control event now).snd.snd==(r28Start t p2.Control event now).snd.snd))∧(Ob (o2 ((procStart s p2.Control event now).snd.snd==(r28Start t p2.Control event now).snd.snd))∧(play.L (((procStart s p2.Control event now).fst,(r28Start t p2.Control event now).fst,bif (procStart s p2.Control event now).snd.snd==(r28Start t p2.Control event now).snd.snd then sameControls (procStart s p2.Control event now).snd.fst (r28Start t p2.Control event now).snd.fst else false)) v)))))) (cond (p2.Call==1) (Ob (List.length s.Waiting≤(1000:Nat)∧List.length s.Pending≤(1000:Nat))∧(Ob (List.length t.Waiting≤(1000:Nat)∧List.length t.Pending≤(1000:Nat))∧(play.L (((procReady s event now).fst,(r28Ready t event now).fst,sameControls (procReady s event now).snd (r28Ready t event now).snd)) v))) (cond (p2.Call==2) (Ob (o3 (r26Check p2.Control != 0))∧(Ob (o2 (r26Check p2.Control != 0))∧(cond (bif r26Check p2.Control != 0 then r26Check p2.Control != 12 else false) (play.L ((s,t,true)) v) (Ob (List.length s.Waiting≤(1000:Nat)∧List.length s.Pending≤(1000:Nat))∧(Ob (List.length t.Pending≤(1000:Nat))∧(Ob (o3 (sameControls (procHandle s p2.Control event now).snd.fst (r28Handle t p2.Control event now).snd.fst))∧(Ob (o3 (sameControls (procHandle s p2.Control event now).snd.fst (r28Handle t p2.Control event now).snd.fst))∧(Ob (o2 (sameControls (procHandle s p2.Control event now).snd.fst (r28Handle t p2.Control event now).snd.fst))∧(play.L (((procHandle s p2.Control event now).fst,(r28Handle t p2.Control event now).fst,bif sameControls (procHandle s p2.Control event now).snd.fst (r28Handle t p2.Control event now).snd.fst then sameInds (procHandle s p2.Control event now).snd.snd (r28Handle t p2.Control event now).snd.snd else false)) v))))))))) (cond (p2.Call==3) (Ob (List.length s.Waiting≤(1000:Nat)∧List.length s.Pending≤(1000:Nat))∧(play.L (((procAnswer s p2.Found p2.Salt).fst,(r28Answer t p2.Found p2.Salt).fst,sameControls (procAnswer s p2.Found p2.Salt).snd (r28Answer t p2.Found p2.Salt).snd)) v)) (cond (p2.Call==4) (Ob (List.length s.Waiting≤(1000:Nat)∧List.length s.Pending≤(1000:Nat))∧(play.L (((procSent s p2.Control).fst,(r28Sent t p2.Control).fst,sameInds (procSent s p2.Control).snd (r28Sent t p2.Control).snd)) v)) (cond (p2.Call==5) (Ob (List.length s.Waiting≤(1000:Nat)∧List.length s.Pending≤(1:Nat))∧(Ob (List.length t.Pending≤(1:Nat))∧(play.L (((procDue s event).fst,(r28Due t event).fst,sameChanges (procDue s event).snd (r28Due t event).snd)) v))) (Ob (o3 (procQuiet s==r28Quiet t))∧(Ob (o3 (procQuiet s==r28Quiet t))∧(Ob (o3 (procQuiet s==r28Quiet t))∧(Ob (o3 (procQuiet s==r28Quiet t))∧(Ob (o3 (procQuiet s==r28Quiet t))∧(Ob (o3 (procQuiet s==r28Quiet t))∧(Ob (o2 (procQuiet s==r28Quiet t))∧(play.L ((s,t,bif procQuiet s==r28Quiet t then procExpired s now==r28Expired t now else false)) v)))))))))))))
theorem play.nf_ok (s:Procs) (t:Procs) (p2:Law28Step) (event:Int) (now:Int) (v:Procs×Procs×Bool): evFun (mkCx Tryz.prog S tab_r28Ready 0) 4 7 [Procs.av s,Procs.av t,Law28Step.av p2, .v (.int .u16 event), .v (.int .i64 now)] [] (fun r' H'=>Gives r' H' (play.res v) (play.news v))= play.nf s t p2 event now v:=by kernel_rfl
theorem play.key (s:Procs) (t:Procs) (p2:Law28Step) (event:Int) (now:Int) (hp:(s.Waiting.length≤1000∧s.Pending.length≤1)∧t.Waiting.length≤1000∧t.Pending.length≤1) (v:Procs×Procs×Bool) (hv:v=play s t p2 event now): play.nf s t p2 event now v:=by
 unfold play at hv
 unfold play.nf
 revert hv;refine by_cond2 (fun hb hv=>?_) (fun hb hv=>?_)
 refine ⟨⟨?_⟩, ?_⟩;rotate_left
 refine ⟨⟨?_⟩, ?_⟩;rotate_left
 iterate 2 refine ⟨⟨o3_ok _⟩, ?_⟩
 refine ⟨⟨o2_ok _⟩, ?_⟩
 subst hv;exact ⟨rfl,rfl⟩
 revert hv;refine by_cond2 (fun hb hv=>?_) (fun hb hv=>?_)
 refine ⟨⟨?_⟩, ?_⟩;rotate_left
 refine ⟨⟨?_⟩, ?_⟩;rotate_left
 subst hv;exact ⟨rfl,rfl⟩
 revert hv;refine by_cond2 (fun hb hv=>?_) (fun hb hv=>?_)
 refine ⟨⟨o3_ok _⟩, ?_⟩
 refine ⟨⟨o2_ok _⟩, ?_⟩
 revert hv;refine by_cond2 (fun hb hv=>?_) (fun hb hv=>?_)
 subst hv;exact ⟨rfl,rfl⟩
 refine ⟨⟨?_⟩, ?_⟩;rotate_left
 refine ⟨⟨?_⟩, ?_⟩;rotate_left
 iterate 2 refine ⟨⟨o3_ok _⟩, ?_⟩
 refine ⟨⟨o2_ok _⟩, ?_⟩
 subst hv;exact ⟨rfl,rfl⟩
 revert hv;refine by_cond2 (fun hb hv=>?_) (fun hb hv=>?_)
 refine ⟨⟨?_⟩, ?_⟩;rotate_left
 subst hv;exact ⟨rfl,rfl⟩
 revert hv;refine by_cond2 (fun hb hv=>?_) (fun hb hv=>?_)
 refine ⟨⟨?_⟩, ?_⟩;rotate_left
 subst hv;exact ⟨rfl,rfl⟩
 revert hv;refine by_cond2 (fun hb hv=>?_) (fun hb hv=>?_)
 refine ⟨⟨?_⟩, ?_⟩;rotate_left
 refine ⟨⟨?_⟩, ?_⟩;rotate_left
 subst hv;exact ⟨rfl,rfl⟩
 iterate 6 refine ⟨⟨o3_ok _⟩, ?_⟩
 refine ⟨⟨o2_ok _⟩, ?_⟩
 subst hv;exact ⟨rfl,rfl⟩
 all_goals ((try clear hv);(try clear q1 q2);(try clear hk);(omega))
def play.ct:Ct El:=ctOf play.dec (fun x=>[(x.1.Waiting.length≤1000∧x.1.Pending.length≤1)∧x.2.1.Waiting.length≤1000∧x.2.1.Pending.length≤1]) (fun x=>play.res (play x.1 x.2.1 x.2.2.1 x.2.2.2.1 x.2.2.2.2)) (fun x=>play.news (play x.1 x.2.1 x.2.2.1 x.2.2.2.1 x.2.2.2.2))
theorem play.ok:CtOk (mkCx Tryz.prog S [] 0) 7 play.ct:=ct_mk (C:=(mkCx Tryz.prog S tab_r28Ready 0)) (mkCx_ok sigOk mixed tab_r28Ready_ok 0) play.dec_ok (fun x=>rfl) 4 (fun x hp=>(play.nf_ok x.1 x.2.1 x.2.2.1 x.2.2.2.1 x.2.2.2.2 _).mpr (play.key x.1 x.2.1 x.2.2.1 x.2.2.2.1 x.2.2.2.2 (hp _ (List.mem_singleton.2 rfl)) _ rfl))
def tab_play:List (FuncId×Ct El):= (7,play.ct):: tab_r28Ready
theorem tab_play_ok:TabOk Tryz.prog S tab_play:=⟨play.ok,by kernel_rfl,tab_r28Ready_ok⟩
end Go.Aw.W
