/- Contracts of the seat (printed by ct.py). -/
import Derived.Test.YtlnbhdcaebmffaaGreatXW4
set_option linter.unusedVariables false
set_option linter.unusedSimpArgs false
set_option maxRecDepth 20000
set_option maxHeartbeats 1000000
namespace Go.Aw.W
open Go Go.Aw Go.Proofs
attribute [local irreducible] evCode evFun evOps evDs evOne ctxK loopK loopB subC bodyC headS okH roundK
def clCtl.res (r:List Control): AV El:=.gs 0
def clCtl.news (r:List Control): List (AObj El):= [.row 37 (r:List (El 37))]
def clCtl (s:List Control): List Control:=s
def clCtl.dec (cs:List (AV El)): Option ((List Control)):= popS 37 cs fun a0 c0=>popE c0 a0
def clCtl.enc (x:(List Control)): List (AV El):= [.sl 37 (x:List (El 37)) false]
theorem clCtl.dec_ok : ∀cs x,clCtl.dec cs=some x→Imp (S:=S) cs (clCtl.enc x):= by
 intro cs x h
 unfold clCtl.dec at h
 obtain ⟨a0,c0,h0,k0⟩:= popS_some (S:=S) (t:=37) h
 obtain ⟨rfl,rfl⟩:= popE_some (S:=S) h0
 exact (k0 _ (.refl _))
theorem clCtl.nf_ok (s:List Control) (K:AV El→List (AObj El)→Prop): evFun (mkCx Tryz.prog S tab_cCheck 0) 4 61 [.sl 37 (s:List (El 37)) false] [] K=(∀z:Bool,(z=true→s=[])→cond (bif false then !z else z) (K (.v (.slice none 0 0)) []) (Ob (((0:Nat)+ List.length s)* (120:Nat)≤(140737488355328:Nat))∧(K (.gs 1) [.gone, .row 37 ([]++ s:List (El 37))]))):= by kernel_rfl
theorem clCtl.key (s:List Control) (hp:s.length*120≤140737488355328): evFun (mkCx Tryz.prog S tab_cCheck 0) 4 61 [.sl 37 (s:List (El 37)) false] [] (fun r' H'=>Gives r' H' (clCtl.res s) (clCtl.news s)):= by
 refine (clCtl.nf_ok s _).mpr ?_
 intro z hz
 cases z
 ·exact ⟨⟨by omega⟩,And.intro (by kernel_rfl) (by kernel_rfl)⟩
 ·have:=hz rfl
  subst this
  exact And.intro (by kernel_rfl) (by kernel_rfl)
def clCtl.ct:Ct El:=ctOf clCtl.dec (fun x=>[x.length*120≤140737488355328]) (fun x=>clCtl.res x) (fun x=>clCtl.news x)
theorem clCtl.ok:CtOk (mkCx Tryz.prog S [] 0) 61 clCtl.ct:=ct_mk (C:=(mkCx Tryz.prog S tab_cCheck 0)) (mkCx_ok sigOk mixed tab_cCheck_ok 0) clCtl.dec_ok (fun x=>rfl) 4 (fun x hp=>clCtl.key x (hp _ (List.mem_singleton.2 rfl)))
def tab_clCtl:List (FuncId×Ct El):= (61,clCtl.ct):: tab_cCheck
theorem tab_clCtl_ok:TabOk Tryz.prog S tab_clCtl:=⟨clCtl.ok,by kernel_rfl,tab_cCheck_ok⟩
def clChg.res (r:List Change): AV El:=.gs 0
def clChg.news (r:List Change): List (AObj El):= [.row 55 (r:List (El 55))]
def clChg (s:List Change): List Change:=s
def clChg.dec (cs:List (AV El)): Option ((List Change)):= popS 55 cs fun a0 c0=>popE c0 a0
def clChg.enc (x:(List Change)): List (AV El):= [.sl 55 (x:List (El 55)) false]
theorem clChg.dec_ok : ∀cs x,clChg.dec cs=some x→Imp (S:=S) cs (clChg.enc x):= by
 intro cs x h
 unfold clChg.dec at h
 obtain ⟨a0,c0,h0,k0⟩:= popS_some (S:=S) (t:=55) h
 obtain ⟨rfl,rfl⟩:= popE_some (S:=S) h0
 exact (k0 _ (.refl _))
theorem clChg.nf_ok (s:List Change) (K:AV El→List (AObj El)→Prop): evFun (mkCx Tryz.prog S tab_clCtl 0) 4 62 [.sl 55 (s:List (El 55)) false] [] K=(∀z:Bool,(z=true→s=[])→cond (bif false then !z else z) (K (.v (.slice none 0 0)) []) (Ob (((0:Nat)+ List.length s)* (64:Nat)≤(140737488355328:Nat))∧(K (.gs 1) [.gone, .row 55 ([]++ s:List (El 55))]))):= by kernel_rfl
theorem clChg.key (s:List Change) (hp:s.length*64≤140737488355328): evFun (mkCx Tryz.prog S tab_clCtl 0) 4 62 [.sl 55 (s:List (El 55)) false] [] (fun r' H'=>Gives r' H' (clChg.res s) (clChg.news s)):= by
 refine (clChg.nf_ok s _).mpr ?_
 intro z hz
 cases z
 ·exact ⟨⟨by omega⟩,And.intro (by kernel_rfl) (by kernel_rfl)⟩
 ·have:=hz rfl
  subst this
  exact And.intro (by kernel_rfl) (by kernel_rfl)
def clChg.ct:Ct El:=ctOf clChg.dec (fun x=>[x.length*64≤140737488355328]) (fun x=>clChg.res x) (fun x=>clChg.news x)
theorem clChg.ok:CtOk (mkCx Tryz.prog S [] 0) 62 clChg.ct:=ct_mk (C:=(mkCx Tryz.prog S tab_clCtl 0)) (mkCx_ok sigOk mixed tab_clCtl_ok 0) clChg.dec_ok (fun x=>rfl) 4 (fun x hp=>clChg.key x (hp _ (List.mem_singleton.2 rfl)))
def tab_clChg:List (FuncId×Ct El):= (62,clChg.ct):: tab_clCtl
theorem tab_clChg_ok:TabOk Tryz.prog S tab_clChg:=⟨clChg.ok,by kernel_rfl,tab_clCtl_ok⟩
def cA (a:List Control) (i:Int): Control:=List.getD a (Int.toNat i) Control.zero
def sameControls.res (r:Bool): AV El:=.v (.bool (r))
def sameControls.news (r:Bool): List (AObj El):= []
def sameControls.L (e v:Bool): Prop:=sameControls.res e=sameControls.res v∧sameControls.news e=sameControls.news v
def sameControls.go (a:List Control) (b:List Control): Nat→Int→Bool
 | 0,_=>false
 | n0+1,i=>cond (decide (i < (↑(List.length a): Int))) (cond (!((cA a i).Kind==(cA b i).Kind && ((cA a i).Update.WinSize==(cA b i).Update.WinSize && ((cA a i).Update.WinOffset==(cA b i).Update.WinOffset && ((cA a i).Update.Interval==(cA b i).Update.Interval && ((cA a i).Update.Latency==(cA b i).Update.Latency && ((cA a i).Update.Timeout==(cA b i).Update.Timeout && ((cA a i).Map==(cA b i).Map && ((cA a i).Instant==(cA b i).Instant && ((cA a i).Reason==(cA b i).Reason && ((cA a i).Rejected==(cA b i).Rejected && ((cA a i).Salt==(cA b i).Salt && ((cA a i).Mark==(cA b i).Mark && ((cA a i).Features==(cA b i).Features && ((cA a i).Version==(cA b i).Version && (cA a i).Length==(cA b i).Length))))))))))))))) (false) (sameControls.go a b n0 (IntKind.wrap IntKind.i64 (i+(1:Int))))) (true)
def sameControls.hd (a:List Control) (b:List Control) (i:Int): St El:={lo:=0,slots:=[(5, .v (.int .i64 (i))),(0, .sl 37 (a:List (El 37)) false),(1, .sl 37 (b:List (El 37)) false)],n:=26,objs:=[]}
def sameControls.st (a:List Control) (b:List Control) (i:Int) (J:St El→Prop) (v:Bool): Prop:=(List.length a≤(9223372036854775807:Nat))→(cond (decide (i < (↑(List.length a): Int))) (Ob (0≤i∧i < (↑(List.length a): Int))∧(Ob (0≤i∧i < (↑(List.length b): Int))∧(cond (!((cA a i).Kind==(cA b i).Kind && ((cA a i).Update.WinSize==(cA b i).Update.WinSize && ((cA a i).Update.WinOffset==(cA b i).Update.WinOffset && ((cA a i).Update.Interval==(cA b i).Update.Interval && ((cA a i).Update.Latency==(cA b i).Update.Latency && ((cA a i).Update.Timeout==(cA b i).Update.Timeout && ((cA a i).Map==(cA b i).Map && ((cA a i).Instant==(cA b i).Instant && ((cA a i).Reason==(cA b i).Reason && ((cA a i).Rejected==(cA b i).Rejected && ((cA a i).Salt==(cA b i).Salt && ((cA a i).Mark==(cA b i).Mark && ((cA a i).Features==(cA b i).Features && ((cA a i).Version==(cA b i).Version && (cA a i).Length==(cA b i).Length))))))))))))))) (sameControls.L (false) v) (J (sameControls.hd a b (IntKind.wrap IntKind.i64 (i+1))))))) (sameControls.L (true) v))
theorem sameControls.st_ok (a:List Control) (b:List Control) (i:Int) (J:St El→Prop) (v:Bool): evCode (mkCx Tryz.prog S tab_clChg 0) (evFun (mkCx Tryz.prog S tab_clChg 0) 3) (loopB Tryz.prog 12 [true,true,false,true,false]) (sameControls.hd a b i) (roundK (C:=(mkCx Tryz.prog S tab_clChg 0)) [5,0,1] [] J (loopK (mkCx Tryz.prog S tab_clChg 0) 3 12 [true,true,false,true,false] (fun r' H'=>Gives r' H' (sameControls.res v) (sameControls.news v))))= sameControls.st a b i J v:=by kernel_rfl
def sameControls.rng (a:List Control) (b:List Control) (n0:Nat) (i:Int): Prop:=0≤i∧i≤a.length∧(a.length - i).toNat < n0∧a.length=b.length
theorem sameControls.lp (a:List Control) (b:List Control) (v:Bool) (n0:Nat) (i:Int) (hv:v=sameControls.go a b n0 i) (h0:sameControls.rng a b n0 i) (st:St El) (q1:okH [5,0,1] [] st=true) (q2:headS [5,0,1] [] st=sameControls.hd a b i): evCode (mkCx Tryz.prog S tab_clChg 0) (evFun (mkCx Tryz.prog S tab_clChg 0) 3) (.loop (loopB Tryz.prog 12 [true,true,false,true,false])) st (loopK (mkCx Tryz.prog S tab_clChg 0) 3 12 [true,true,false,true,false] (fun r' H'=>Gives r' H' (sameControls.res v) (sameControls.news v))):= by
 refine loop_ev (by kernel_rfl) (evFun_mono _ _) [5,0,1] [] (X:=Nat×Int) (fun x=>sameControls.hd a b x.2) (fun x=>x.1) (fun x=>sameControls.rng a b x.1 x.2∧v=sameControls.go a b x.1 x.2) (n0,i) ⟨q1,q2⟩ ⟨h0,hv⟩ ?_
 clear h0 hv q1 q2
 rintro ⟨n0,i⟩ ⟨hr,hv⟩
 dsimp only at hr hv
 cases n0 with
 | zero=>exact absurd hr (by unfold sameControls.rng;omega)
 | succ n0 =>
 unfold sameControls.rng at hr
 unfold sameControls.go at hv
 refine (sameControls.st_ok a b i _ _).mpr ?_
 unfold sameControls.st
 intro hlen
 revert hv;refine by_cond2 (fun hb hv=>?_) (fun hb hv=>?_)
 refine ⟨⟨?_⟩, ?_⟩;rotate_left
 refine ⟨⟨?_⟩, ?_⟩;rotate_left
 revert hv;refine by_cond2 (fun hb hv=>?_) (fun hb hv=>?_)
 subst hv;exact ⟨rfl,rfl⟩
 exact ⟨(n0,(IntKind.wrap IntKind.i64 (i+(1:Int)))),(by kernel_rfl),Nat.lt_succ_self n0,(by dsimp only;unfold sameControls.rng;(try clear hv);(try clear q1 q2);(try clear hk);(try simp only [decide_eq_true_eq,decide_eq_false_iff_not,Bool.not_eq_true,Bool.not_eq_false,Bool.and_eq_true,Bool.or_eq_true,Bool.not_not,cond_and,cond_or,List.length_append,List.length_cons,List.length_nil] at *);have:=wi64s (i+(1:Int));omega),hv⟩
 subst hv;exact ⟨rfl,rfl⟩
 all_goals ((try clear hv);(try clear q1 q2);(try clear hk);(((try simp only [decide_eq_true_eq,decide_eq_false_iff_not,Bool.not_eq_true,Bool.not_eq_false,Bool.and_eq_true,Bool.or_eq_true,Bool.not_not,cond_and,cond_or,List.length_append,List.length_cons,List.length_nil] at *);(first | done | ((omega))))))
def sameControls (a:List Control) (b:List Control): Bool:=cond ((↑(List.length a): Int) != (↑(List.length b): Int)) (false) (sameControls.go a b (a.length+1) ((0:Int)))
def sameControls.dec (cs:List (AV El)): Option ((List Control)×(List Control)):= popS 37 cs fun a0 c0=>popS 37 c0 fun a1 c1=>popE c1 (a0,a1)
def sameControls.enc (x:(List Control)×(List Control)): List (AV El):= [.sl 37 (x.1:List (El 37)) false, .sl 37 (x.2:List (El 37)) false]
theorem sameControls.dec_ok : ∀cs x,sameControls.dec cs=some x→Imp (S:=S) cs (sameControls.enc x):= by
 intro cs x h
 unfold sameControls.dec at h
 obtain ⟨a0,c0,h0,k0⟩:= popS_some (S:=S) (t:=37) h
 obtain ⟨a1,c1,h1,k1⟩:= popS_some (S:=S) (t:=37) h0
 obtain ⟨rfl,rfl⟩:= popE_some (S:=S) h1
 exact (k0 _ (k1 _ (.refl _)))
def sameControls.nf (a:List Control) (b:List Control) (v:Bool): Prop:=(List.length a≤(9223372036854775807:Nat))→((List.length b≤(9223372036854775807:Nat))→(cond ((↑(List.length a): Int) != (↑(List.length b): Int)) (sameControls.L (false) v) (evCode (mkCx Tryz.prog S tab_clChg 0) (evFun (mkCx Tryz.prog S tab_clChg 0) 3) (.loop (loopB Tryz.prog 12 [true,true,false,true,false])) ({lo:=0,slots:=[(5, .v (.int .i64 (0))),(10, .v (.bool (false))),(10, .v (.bool ((↑(List.length a): Int) != (↑(List.length b): Int)))),(9, .v (.int .i64 ((↑(List.length b): Int)))),(8, .sl 37 (b:List (El 37)) false),(7, .v (.int .i64 ((↑(List.length a): Int)))),(6, .sl 37 (a:List (El 37)) false),(4, .v (.bool (false))),(0, .sl 37 (a:List (El 37)) false),(1, .sl 37 (b:List (El 37)) false)],n:=26,objs:=[]}) (loopK (mkCx Tryz.prog S tab_clChg 0) 3 12 [true,true,false,true,false] (fun r' H'=>Gives r' H' (sameControls.res v) (sameControls.news v))))))
theorem sameControls.nf_ok (a:List Control) (b:List Control) (v:Bool): evFun (mkCx Tryz.prog S tab_clChg 0) 4 12 [.sl 37 (a:List (El 37)) false, .sl 37 (b:List (El 37)) false] [] (fun r' H'=>Gives r' H' (sameControls.res v) (sameControls.news v))= sameControls.nf a b v:=by kernel_rfl
theorem sameControls.key (a:List Control) (b:List Control) (v:Bool) (hv:v=sameControls a b): sameControls.nf a b v:=by
 unfold sameControls at hv
 unfold sameControls.nf
 intro hlen
 intro hlen
 revert hv;refine by_cond2 (fun hb hv=>?_) (fun hb hv=>?_)
 ·subst hv;exact ⟨rfl,rfl⟩
 ·exact sameControls.lp a b v _ _ hv (by unfold sameControls.rng;(try clear hv);(try clear q1 q2);(try clear hk);((try simp only [bne_eq_false_iff_eq] at *);omega)) _ (by kernel_rfl) (by kernel_rfl)
def sameControls.ct:Ct El:=ctOf sameControls.dec (fun _=>[]) (fun x=>sameControls.res (sameControls x.1 x.2)) (fun x=>sameControls.news (sameControls x.1 x.2))
theorem sameControls.ok:CtOk (mkCx Tryz.prog S [] 0) 12 sameControls.ct:=ct_mk (C:=(mkCx Tryz.prog S tab_clChg 0)) (mkCx_ok sigOk mixed tab_clChg_ok 0) sameControls.dec_ok (fun x=>rfl) 4 (fun x _=>(sameControls.nf_ok x.1 x.2 _).mpr (sameControls.key x.1 x.2 _ rfl))
def tab_sameControls:List (FuncId×Ct El):= (12,sameControls.ct):: tab_clChg
theorem tab_sameControls_ok:TabOk Tryz.prog S tab_sameControls:=⟨sameControls.ok,by kernel_rfl,tab_clChg_ok⟩
def hA1 (a:List Change) (i:Int): Change:=List.getD a (Int.toNat i) Change.zero
def sameChanges.res (r:Bool): AV El:=.v (.bool (r))
def sameChanges.news (r:Bool): List (AObj El):= []
def sameChanges.L (e v:Bool): Prop:=sameChanges.res e=sameChanges.res v∧sameChanges.news e=sameChanges.news v
def sameChanges.go (a:List Change) (b:List Change): Nat→Int→Bool
 | 0,_=>false
 | n0+1,i=>cond (decide (i < (↑(List.length a): Int))) (cond (!((hA1 a i).Kind==(hA1 b i).Kind && ((hA1 a i).Instant==(hA1 b i).Instant && ((hA1 a i).Update.WinSize==(hA1 b i).Update.WinSize && ((hA1 a i).Update.WinOffset==(hA1 b i).Update.WinOffset && ((hA1 a i).Update.Interval==(hA1 b i).Update.Interval && ((hA1 a i).Update.Latency==(hA1 b i).Update.Latency && ((hA1 a i).Update.Timeout==(hA1 b i).Update.Timeout && (hA1 a i).Map==(hA1 b i).Map)))))))) (false) (sameChanges.go a b n0 (IntKind.wrap IntKind.i64 (i+(1:Int))))) (true)
def sameChanges.hd (a:List Change) (b:List Change) (i:Int): St El:={lo:=0,slots:=[(5, .v (.int .i64 (i))),(0, .sl 55 (a:List (El 55)) false),(1, .sl 55 (b:List (El 55)) false)],n:=26,objs:=[]}
def sameChanges.st (a:List Change) (b:List Change) (i:Int) (J:St El→Prop) (v:Bool): Prop:=(List.length a≤(9223372036854775807:Nat))→(cond (decide (i < (↑(List.length a): Int))) (Ob (0≤i∧i < (↑(List.length a): Int))∧(Ob (0≤i∧i < (↑(List.length b): Int))∧(cond (!((hA1 a i).Kind==(hA1 b i).Kind && ((hA1 a i).Instant==(hA1 b i).Instant && ((hA1 a i).Update.WinSize==(hA1 b i).Update.WinSize && ((hA1 a i).Update.WinOffset==(hA1 b i).Update.WinOffset && ((hA1 a i).Update.Interval==(hA1 b i).Update.Interval && ((hA1 a i).Update.Latency==(hA1 b i).Update.Latency && ((hA1 a i).Update.Timeout==(hA1 b i).Update.Timeout && (hA1 a i).Map==(hA1 b i).Map)))))))) (sameChanges.L (false) v) (J (sameChanges.hd a b (IntKind.wrap IntKind.i64 (i+1))))))) (sameChanges.L (true) v))
theorem sameChanges.st_ok (a:List Change) (b:List Change) (i:Int) (J:St El→Prop) (v:Bool): evCode (mkCx Tryz.prog S tab_sameControls 0) (evFun (mkCx Tryz.prog S tab_sameControls 0) 3) (loopB Tryz.prog 24 [true,true,false,true,false]) (sameChanges.hd a b i) (roundK (C:=(mkCx Tryz.prog S tab_sameControls 0)) [5,0,1] [] J (loopK (mkCx Tryz.prog S tab_sameControls 0) 3 24 [true,true,false,true,false] (fun r' H'=>Gives r' H' (sameChanges.res v) (sameChanges.news v))))= sameChanges.st a b i J v:=by kernel_rfl
def sameChanges.rng (a:List Change) (b:List Change) (n0:Nat) (i:Int): Prop:=0≤i∧i≤a.length∧(a.length - i).toNat < n0∧a.length=b.length
theorem sameChanges.lp (a:List Change) (b:List Change) (v:Bool) (n0:Nat) (i:Int) (hv:v=sameChanges.go a b n0 i) (h0:sameChanges.rng a b n0 i) (st:St El) (q1:okH [5,0,1] [] st=true) (q2:headS [5,0,1] [] st=sameChanges.hd a b i): evCode (mkCx Tryz.prog S tab_sameControls 0) (evFun (mkCx Tryz.prog S tab_sameControls 0) 3) (.loop (loopB Tryz.prog 24 [true,true,false,true,false])) st (loopK (mkCx Tryz.prog S tab_sameControls 0) 3 24 [true,true,false,true,false] (fun r' H'=>Gives r' H' (sameChanges.res v) (sameChanges.news v))):= by
 refine loop_ev (by kernel_rfl) (evFun_mono _ _) [5,0,1] [] (X:=Nat×Int) (fun x=>sameChanges.hd a b x.2) (fun x=>x.1) (fun x=>sameChanges.rng a b x.1 x.2∧v=sameChanges.go a b x.1 x.2) (n0,i) ⟨q1,q2⟩ ⟨h0,hv⟩ ?_
 clear h0 hv q1 q2
 rintro ⟨n0,i⟩ ⟨hr,hv⟩
 dsimp only at hr hv
 cases n0 with
 | zero=>exact absurd hr (by unfold sameChanges.rng;omega)
 | succ n0 =>
 unfold sameChanges.rng at hr
 unfold sameChanges.go at hv
 refine (sameChanges.st_ok a b i _ _).mpr ?_
 unfold sameChanges.st
 intro hlen
 revert hv;refine by_cond2 (fun hb hv=>?_) (fun hb hv=>?_)
 refine ⟨⟨?_⟩, ?_⟩;rotate_left
 refine ⟨⟨?_⟩, ?_⟩;rotate_left
 revert hv;refine by_cond2 (fun hb hv=>?_) (fun hb hv=>?_)
 subst hv;exact ⟨rfl,rfl⟩
 exact ⟨(n0,(IntKind.wrap IntKind.i64 (i+(1:Int)))),(by kernel_rfl),Nat.lt_succ_self n0,(by dsimp only;unfold sameChanges.rng;(try clear hv);(try clear q1 q2);(try clear hk);(try simp only [decide_eq_true_eq,decide_eq_false_iff_not,Bool.not_eq_true,Bool.not_eq_false,Bool.and_eq_true,Bool.or_eq_true,Bool.not_not,cond_and,cond_or,List.length_append,List.length_cons,List.length_nil] at *);have:=wi64s (i+(1:Int));omega),hv⟩
 subst hv;exact ⟨rfl,rfl⟩
 all_goals ((try clear hv);(try clear q1 q2);(try clear hk);(((try simp only [decide_eq_true_eq,decide_eq_false_iff_not,Bool.not_eq_true,Bool.not_eq_false,Bool.and_eq_true,Bool.or_eq_true,Bool.not_not,cond_and,cond_or,List.length_append,List.length_cons,List.length_nil] at *);(first | done | ((omega))))))
def sameChanges (a:List Change) (b:List Change): Bool:=cond ((↑(List.length a): Int) != (↑(List.length b): Int)) (false) (sameChanges.go a b (a.length+1) ((0:Int)))
def sameChanges.dec (cs:List (AV El)): Option ((List Change)×(List Change)):= popS 55 cs fun a0 c0=>popS 55 c0 fun a1 c1=>popE c1 (a0,a1)
def sameChanges.enc (x:(List Change)×(List Change)): List (AV El):= [.sl 55 (x.1:List (El 55)) false, .sl 55 (x.2:List (El 55)) false]
theorem sameChanges.dec_ok : ∀cs x,sameChanges.dec cs=some x→Imp (S:=S) cs (sameChanges.enc x):= by
 intro cs x h
 unfold sameChanges.dec at h
 obtain ⟨a0,c0,h0,k0⟩:= popS_some (S:=S) (t:=55) h
 obtain ⟨a1,c1,h1,k1⟩:= popS_some (S:=S) (t:=55) h0
 obtain ⟨rfl,rfl⟩:= popE_some (S:=S) h1
 exact (k0 _ (k1 _ (.refl _)))
def sameChanges.nf (a:List Change) (b:List Change) (v:Bool): Prop:=(List.length a≤(9223372036854775807:Nat))→((List.length b≤(9223372036854775807:Nat))→(cond ((↑(List.length a): Int) != (↑(List.length b): Int)) (sameChanges.L (false) v) (evCode (mkCx Tryz.prog S tab_sameControls 0) (evFun (mkCx Tryz.prog S tab_sameControls 0) 3) (.loop (loopB Tryz.prog 24 [true,true,false,true,false])) ({lo:=0,slots:=[(5, .v (.int .i64 (0))),(10, .v (.bool (false))),(10, .v (.bool ((↑(List.length a): Int) != (↑(List.length b): Int)))),(9, .v (.int .i64 ((↑(List.length b): Int)))),(8, .sl 55 (b:List (El 55)) false),(7, .v (.int .i64 ((↑(List.length a): Int)))),(6, .sl 55 (a:List (El 55)) false),(4, .v (.bool (false))),(0, .sl 55 (a:List (El 55)) false),(1, .sl 55 (b:List (El 55)) false)],n:=26,objs:=[]}) (loopK (mkCx Tryz.prog S tab_sameControls 0) 3 24 [true,true,false,true,false] (fun r' H'=>Gives r' H' (sameChanges.res v) (sameChanges.news v))))))
theorem sameChanges.nf_ok (a:List Change) (b:List Change) (v:Bool): evFun (mkCx Tryz.prog S tab_sameControls 0) 4 24 [.sl 55 (a:List (El 55)) false, .sl 55 (b:List (El 55)) false] [] (fun r' H'=>Gives r' H' (sameChanges.res v) (sameChanges.news v))= sameChanges.nf a b v:=by kernel_rfl
theorem sameChanges.key (a:List Change) (b:List Change) (v:Bool) (hv:v=sameChanges a b): sameChanges.nf a b v:=by
 unfold sameChanges at hv
 unfold sameChanges.nf
 intro hlen
 intro hlen
 revert hv;refine by_cond2 (fun hb hv=>?_) (fun hb hv=>?_)
 ·subst hv;exact ⟨rfl,rfl⟩
 ·exact sameChanges.lp a b v _ _ hv (by unfold sameChanges.rng;(try clear hv);(try clear q1 q2);(try clear hk);((try simp only [bne_eq_false_iff_eq] at *);omega)) _ (by kernel_rfl) (by kernel_rfl)
def sameChanges.ct:Ct El:=ctOf sameChanges.dec (fun _=>[]) (fun x=>sameChanges.res (sameChanges x.1 x.2)) (fun x=>sameChanges.news (sameChanges x.1 x.2))
theorem sameChanges.ok:CtOk (mkCx Tryz.prog S [] 0) 24 sameChanges.ct:=ct_mk (C:=(mkCx Tryz.prog S tab_sameControls 0)) (mkCx_ok sigOk mixed tab_sameControls_ok 0) sameChanges.dec_ok (fun x=>rfl) 4 (fun x _=>(sameChanges.nf_ok x.1 x.2 _).mpr (sameChanges.key x.1 x.2 _ rfl))
def tab_sameChanges:List (FuncId×Ct El):= (24,sameChanges.ct):: tab_sameControls
theorem tab_sameChanges_ok:TabOk Tryz.prog S tab_sameChanges:=⟨sameChanges.ok,by kernel_rfl,tab_sameControls_ok⟩
def sameProcs.res (r:Bool): AV El:=.v (.bool (r))
def sameProcs.news (r:Bool): List (AObj El):= []
def sameProcs.L (e v:Bool): Prop:=sameProcs.res e=sameProcs.res v∧sameProcs.news e=sameProcs.news v
def sameProcs (a:Procs) (b:Procs): Bool:=cond (bif bif bif bif bif bif bif bif a.Role != b.Role then true else a.Own != b.Own then true else a.Since != b.Since then true else a.Other != b.Other then true else a.OtherTime != b.OtherTime then true else a.Features != b.Features then true else a.Common != b.Common then true else !a.Known==b.Known then true else !a.Told==b.Told) (false) (cond (bif bif bif bif bif bif bif bif !a.VersionTx==b.VersionTx then true else a.Version != b.Version then true else a.Length != b.Length then true else a.Limit != b.Limit then true else a.Salt != b.Salt then true else a.Peer != b.Peer then true else a.Mark != b.Mark then true else a.Crypt != b.Crypt then true else a.Ended != b.Ended) (false) (bif sameControls a.Waiting b.Waiting then sameChanges a.Pending b.Pending else false))
def sameProcs.dec (cs:List (AV El)): Option (Procs×Procs):= popA Procs.dec cs fun a0 c0=>popA Procs.dec c0 fun a1 c1=>popE c1 (a0,a1)
def sameProcs.enc (x:Procs×Procs): List (AV El):= [Procs.av x.1,Procs.av x.2]
theorem sameProcs.dec_ok : ∀cs x,sameProcs.dec cs=some x→Imp (S:=S) cs (sameProcs.enc x):= by
 intro cs x h
 unfold sameProcs.dec at h
 obtain ⟨a0,c0,h0,k0⟩:= popA_some (S:=S) Procs.dec_ok h
 obtain ⟨a1,c1,h1,k1⟩:= popA_some (S:=S) Procs.dec_ok h0
 obtain ⟨rfl,rfl⟩:= popE_some (S:=S) h1
 exact (k0 _ (k1 _ (.refl _)))
def sameProcs_nf_g1 (a:Procs) (b:Procs): Bool:=bif (bif a.Role != b.Role then true else a.Own != b.Own) then true else (a.Since != b.Since)
def sameProcs_nf_g2 (a:Procs) (b:Procs): Bool:=bif (sameProcs_nf_g1 a b) then true else (a.Other != b.Other)
def sameProcs_nf_g3 (a:Procs) (b:Procs): Bool:=bif (sameProcs_nf_g2 a b) then true else (a.OtherTime != b.OtherTime)
def sameProcs_nf_g4 (a:Procs) (b:Procs): Bool:=bif (sameProcs_nf_g3 a b) then true else (a.Features != b.Features)
def sameProcs_nf_g5 (a:Procs) (b:Procs): Bool:=bif (sameProcs_nf_g4 a b) then true else (a.Common != b.Common)
def sameProcs_nf_g6 (a:Procs) (b:Procs): Bool:=bif (sameProcs_nf_g5 a b) then true else (!a.Known==b.Known)
def sameProcs_nf_g7 (a:Procs) (b:Procs): Bool:=bif (!a.VersionTx==b.VersionTx) then true else (a.Version != b.Version)
def sameProcs_nf_g8 (a:Procs) (b:Procs): Bool:=bif (sameProcs_nf_g7 a b) then true else (a.Length != b.Length)
def sameProcs_nf_g9 (a:Procs) (b:Procs): Bool:=bif (sameProcs_nf_g8 a b) then true else (a.Limit != b.Limit)
def sameProcs_nf_g10 (a:Procs) (b:Procs): Bool:=bif (sameProcs_nf_g9 a b) then true else (a.Salt != b.Salt)
def sameProcs_nf_g11 (a:Procs) (b:Procs): Bool:=bif (sameProcs_nf_g10 a b) then true else (a.Peer != b.Peer)
def sameProcs_nf_g12 (a:Procs) (b:Procs): Bool:=bif (sameProcs_nf_g11 a b) then true else (a.Mark != b.Mark)
def sameProcs_nf_g13 (a:Procs) (b:Procs): Bool:=bif (sameProcs_nf_g12 a b) then true else (a.Crypt != b.Crypt)
def sameProcs.nf (a:Procs) (b:Procs) (v:Bool): Prop:=Ob (o3 (!a.Role != b.Role))∧(Ob (o3 (!a.Role != b.Role))∧(Ob (o3 (!a.Role != b.Role))∧(Ob (o3 (!a.Role != b.Role))∧(Ob (on (a.Role != b.Role))∧(Ob (o3 (!bif a.Role != b.Role then true else a.Own != b.Own))∧(Ob (o3 (!bif a.Role != b.Role then true else a.Own != b.Own))∧(Ob (o3 (!bif a.Role != b.Role then true else a.Own != b.Own))∧(Ob (o3 (!bif a.Role != b.Role then true else a.Own != b.Own))∧(Ob (on (bif a.Role != b.Role then true else a.Own != b.Own))∧(Ob (o3 (!(sameProcs_nf_g1 a b)))∧(Ob (o3 (!(sameProcs_nf_g1 a b)))∧(Ob (o3 (!(sameProcs_nf_g1 a b)))∧(Ob (o3 (!(sameProcs_nf_g1 a b)))∧(Ob (on (sameProcs_nf_g1 a b))∧(Ob (o3 (!(sameProcs_nf_g2 a b)))∧(Ob (o3 (!(sameProcs_nf_g2 a b)))∧(Ob (o3 (!(sameProcs_nf_g2 a b)))∧(Ob (o3 (!(sameProcs_nf_g2 a b)))∧(Ob (on (sameProcs_nf_g2 a b))∧(Ob (o3 (!(sameProcs_nf_g3 a b)))∧(Ob (o3 (!(sameProcs_nf_g3 a b)))∧(Ob (o3 (!(sameProcs_nf_g3 a b)))∧(Ob (o3 (!(sameProcs_nf_g3 a b)))∧(Ob (on (sameProcs_nf_g3 a b))∧(Ob (o3 (!(sameProcs_nf_g4 a b)))∧(Ob (o3 (!(sameProcs_nf_g4 a b)))∧(Ob (o3 (!(sameProcs_nf_g4 a b)))∧(Ob (o3 (!(sameProcs_nf_g4 a b)))∧(Ob (on (sameProcs_nf_g4 a b))∧(Ob (o3 (!(sameProcs_nf_g5 a b)))∧(Ob (o3 (!(sameProcs_nf_g5 a b)))∧(Ob (o3 (!(sameProcs_nf_g5 a b)))∧(Ob (o3 (!(sameProcs_nf_g5 a b)))∧(Ob (on (sameProcs_nf_g5 a b))∧(Ob (o3 (!(sameProcs_nf_g6 a b)))∧(Ob (o3 (!(sameProcs_nf_g6 a b)))∧(Ob (o3 (!(sameProcs_nf_g6 a b)))∧(Ob (o3 (!(sameProcs_nf_g6 a b)))∧(Ob (on (sameProcs_nf_g6 a b))∧(cond (bif bif bif bif bif bif bif bif a.Role != b.Role then true else a.Own != b.Own then true else a.Since != b.Since then true else a.Other != b.Other then true else a.OtherTime != b.OtherTime then true else a.Features != b.Features then true else a.Common != b.Common then true else !a.Known==b.Known then true else !a.Told==b.Told) (sameProcs.L (false) v) (Ob (o3 (!!a.VersionTx==b.VersionTx))∧(Ob (o3 (!!a.VersionTx==b.VersionTx))∧(Ob (o3 (!!a.VersionTx==b.VersionTx))∧(Ob (o3 (!!a.VersionTx==b.VersionTx))∧(Ob (on (!a.VersionTx==b.VersionTx))∧(Ob (o3 (!(sameProcs_nf_g7 a b)))∧(Ob (o3 (!(sameProcs_nf_g7 a b)))∧(Ob (o3 (!(sameProcs_nf_g7 a b)))∧(Ob (o3 (!(sameProcs_nf_g7 a b)))∧(Ob (on (sameProcs_nf_g7 a b))∧(Ob (o3 (!(sameProcs_nf_g8 a b)))∧(Ob (o3 (!(sameProcs_nf_g8 a b)))∧(Ob (o3 (!(sameProcs_nf_g8 a b)))∧(Ob (o3 (!(sameProcs_nf_g8 a b)))∧(Ob (on (sameProcs_nf_g8 a b))∧(Ob (o3 (!(sameProcs_nf_g9 a b)))∧(Ob (o3 (!(sameProcs_nf_g9 a b)))∧(Ob (o3 (!(sameProcs_nf_g9 a b)))∧(Ob (o3 (!(sameProcs_nf_g9 a b)))∧(Ob (on (sameProcs_nf_g9 a b))∧(Ob (o3 (!(sameProcs_nf_g10 a b)))∧(Ob (o3 (!(sameProcs_nf_g10 a b)))∧(Ob (o3 (!(sameProcs_nf_g10 a b)))∧(Ob (o3 (!(sameProcs_nf_g10 a b)))∧(Ob (on (sameProcs_nf_g10 a b))∧(Ob (o3 (!(sameProcs_nf_g11 a b)))∧(Ob (o3 (!(sameProcs_nf_g11 a b)))∧(Ob (o3 (!(sameProcs_nf_g11 a b)))∧(Ob (o3 (!(sameProcs_nf_g11 a b)))∧(Ob (on (sameProcs_nf_g11 a b))∧(Ob (o3 (!(sameProcs_nf_g12 a b)))∧(Ob (o3 (!(sameProcs_nf_g12 a b)))∧(Ob (o3 (!(sameProcs_nf_g12 a b)))∧(Ob (o3 (!(sameProcs_nf_g12 a b)))∧(Ob (on (sameProcs_nf_g12 a b))∧(Ob (o3 (!(sameProcs_nf_g13 a b)))∧(Ob (o3 (!(sameProcs_nf_g13 a b)))∧(Ob (o3 (!(sameProcs_nf_g13 a b)))∧(Ob (o3 (!(sameProcs_nf_g13 a b)))∧(Ob (on (sameProcs_nf_g13 a b))∧(cond (bif bif bif bif bif bif bif bif !a.VersionTx==b.VersionTx then true else a.Version != b.Version then true else a.Length != b.Length then true else a.Limit != b.Limit then true else a.Salt != b.Salt then true else a.Peer != b.Peer then true else a.Mark != b.Mark then true else a.Crypt != b.Crypt then true else a.Ended != b.Ended) (sameProcs.L (false) v) (Ob (o3 (sameControls a.Waiting b.Waiting))∧(Ob (o3 (sameControls a.Waiting b.Waiting))∧(Ob (o3 (sameControls a.Waiting b.Waiting))∧(Ob (o3 (sameControls a.Waiting b.Waiting))∧(Ob (o2 (sameControls a.Waiting b.Waiting))∧(sameProcs.L (bif sameControls a.Waiting b.Waiting then sameChanges a.Pending b.Pending else false) v)))))))))))))))))))))))))))))))))))))))))))))))))))))))))))))))))))))))))))))))))))))))
theorem sameProcs.nf_ok (a:Procs) (b:Procs) (v:Bool): evFun (mkCx Tryz.prog S tab_sameChanges 0) 4 8 [Procs.av a,Procs.av b] [] (fun r' H'=>Gives r' H' (sameProcs.res v) (sameProcs.news v))= sameProcs.nf a b v:=by kernel_rfl
theorem sameProcs.key (a:Procs) (b:Procs) (v:Bool) (hv:v=sameProcs a b): sameProcs.nf a b v:=by
 unfold sameProcs at hv
 unfold sameProcs.nf
 iterate 4 refine ⟨⟨o3_ok _⟩, ?_⟩
 refine ⟨⟨on_ok _⟩, ?_⟩
 iterate 4 refine ⟨⟨o3_ok _⟩, ?_⟩
 refine ⟨⟨on_ok _⟩, ?_⟩
 iterate 4 refine ⟨⟨o3_ok _⟩, ?_⟩
 refine ⟨⟨on_ok _⟩, ?_⟩
 iterate 4 refine ⟨⟨o3_ok _⟩, ?_⟩
 refine ⟨⟨on_ok _⟩, ?_⟩
 iterate 4 refine ⟨⟨o3_ok _⟩, ?_⟩
 refine ⟨⟨on_ok _⟩, ?_⟩
 iterate 4 refine ⟨⟨o3_ok _⟩, ?_⟩
 refine ⟨⟨on_ok _⟩, ?_⟩
 iterate 4 refine ⟨⟨o3_ok _⟩, ?_⟩
 refine ⟨⟨on_ok _⟩, ?_⟩
 iterate 4 refine ⟨⟨o3_ok _⟩, ?_⟩
 refine ⟨⟨on_ok _⟩, ?_⟩
 revert hv;refine by_cond2 (fun hb hv=>?_) (fun hb hv=>?_)
 ·subst hv;exact ⟨rfl,rfl⟩
 ·refine ⟨⟨o3_ok _⟩, ?_⟩
  iterate 3 refine ⟨⟨o3_ok _⟩, ?_⟩
  refine ⟨⟨on_ok _⟩, ?_⟩
  iterate 4 refine ⟨⟨o3_ok _⟩, ?_⟩
  refine ⟨⟨on_ok _⟩, ?_⟩
  iterate 4 refine ⟨⟨o3_ok _⟩, ?_⟩
  refine ⟨⟨on_ok _⟩, ?_⟩
  iterate 4 refine ⟨⟨o3_ok _⟩, ?_⟩
  refine ⟨⟨on_ok _⟩, ?_⟩
  iterate 4 refine ⟨⟨o3_ok _⟩, ?_⟩
  refine ⟨⟨on_ok _⟩, ?_⟩
  iterate 4 refine ⟨⟨o3_ok _⟩, ?_⟩
  refine ⟨⟨on_ok _⟩, ?_⟩
  iterate 4 refine ⟨⟨o3_ok _⟩, ?_⟩
  refine ⟨⟨on_ok _⟩, ?_⟩
  iterate 4 refine ⟨⟨o3_ok _⟩, ?_⟩
  refine ⟨⟨on_ok _⟩, ?_⟩
  revert hv;refine by_cond2 (fun hb hv=>?_) (fun hb hv=>?_)
  ·subst hv;exact ⟨rfl,rfl⟩
  ·refine ⟨⟨o3_ok _⟩, ?_⟩
   iterate 3 refine ⟨⟨o3_ok _⟩, ?_⟩
   refine ⟨⟨o2_ok _⟩, ?_⟩
   subst hv;exact ⟨rfl,rfl⟩
def sameProcs.ct:Ct El:=ctOf sameProcs.dec (fun _=>[]) (fun x=>sameProcs.res (sameProcs x.1 x.2)) (fun x=>sameProcs.news (sameProcs x.1 x.2))
theorem sameProcs.ok:CtOk (mkCx Tryz.prog S [] 0) 8 sameProcs.ct:=ct_mk (C:=(mkCx Tryz.prog S tab_sameChanges 0)) (mkCx_ok sigOk mixed tab_sameChanges_ok 0) sameProcs.dec_ok (fun x=>rfl) 4 (fun x _=>(sameProcs.nf_ok x.1 x.2 _).mpr (sameProcs.key x.1 x.2 _ rfl))
def tab_sameProcs:List (FuncId×Ct El):= (8,sameProcs.ct):: tab_sameChanges
theorem tab_sameProcs_ok:TabOk Tryz.prog S tab_sameProcs:=⟨sameProcs.ok,by kernel_rfl,tab_sameChanges_ok⟩
def procNew.res (r:Procs): AV El:=Procs.av (r)
def procNew.news (r:Procs): List (AObj El):= []
def procNew.L (e v:Procs): Prop:=procNew.res e=procNew.res v∧procNew.news e=procNew.news v
def procNew (role:Int) (features:Int) (limit:Int): Procs:=cond (role != 1) ((⟨(0),((-1)),(0),([]),((-1)),(0),([]),(false),(features),(0),(false),(false),((-1)),(27),(maxI 27 (minI limit 251)),(0),(0),(0),(0),(0)⟩: Procs)) ((⟨(role),((-1)),(0),([]),((-1)),(0),([]),(false),(features),(0),(false),(false),((-1)),(27),(maxI 27 (minI limit 251)),(0),(0),(0),(0),(0)⟩: Procs))
def procNew.dec (cs:List (AV El)): Option (Int×Int×Int):= popI .i64 cs fun a0 c0=>popI .u64 c0 fun a1 c1=>popI .i64 c1 fun a2 c2=>popE c2 (a0,a1,a2)
def procNew.enc (x:Int×Int×Int): List (AV El):= [.v (.int .i64 x.1), .v (.int .u64 x.2.1), .v (.int .i64 x.2.2)]
theorem procNew.dec_ok : ∀cs x,procNew.dec cs=some x→Imp (S:=S) cs (procNew.enc x):= by
 intro cs x h
 unfold procNew.dec at h
 obtain ⟨a0,c0,rfl,h0⟩:= popI_some (S:=S) h
 obtain ⟨a1,c1,rfl,h1⟩:= popI_some (S:=S) h0
 obtain ⟨a2,c2,rfl,h2⟩:= popI_some (S:=S) h1
 obtain ⟨rfl,rfl⟩:= popE_some (S:=S) h2
 exact (.cons (.cons (.cons (.refl _))))
def procNew.nf (role:Int) (features:Int) (limit:Int) (v:Procs): Prop:=cond (role != 1) (procNew.L ((⟨(0),((-1)),(0),([]),((-1)),(0),([]),(false),(features),(0),(false),(false),((-1)),(27),(maxI 27 (minI limit 251)),(0),(0),(0),(0),(0)⟩: Procs)) v) (procNew.L ((⟨(role),((-1)),(0),([]),((-1)),(0),([]),(false),(features),(0),(false),(false),((-1)),(27),(maxI 27 (minI limit 251)),(0),(0),(0),(0),(0)⟩: Procs)) v)
theorem procNew.nf_ok (role:Int) (features:Int) (limit:Int) (v:Procs): evFun (mkCx Tryz.prog S tab_sameChanges 0) 4 5 [.v (.int .i64 role), .v (.int .u64 features), .v (.int .i64 limit)] [] (fun r' H'=>Gives r' H' (procNew.res v) (procNew.news v))= procNew.nf role features limit v:=by kernel_rfl
theorem procNew.key (role:Int) (features:Int) (limit:Int) (v:Procs) (hv:v=procNew role features limit): procNew.nf role features limit v:=by
 unfold procNew at hv
 unfold procNew.nf
 revert hv;refine by_cond2 (fun hb hv=>?_) (fun hb hv=>?_)
 ·subst hv;exact ⟨rfl,rfl⟩
 ·subst hv;exact ⟨rfl,rfl⟩
def procNew.ct:Ct El:=ctOf procNew.dec (fun _=>[]) (fun x=>procNew.res (procNew x.1 x.2.1 x.2.2)) (fun x=>procNew.news (procNew x.1 x.2.1 x.2.2))
theorem procNew.ok:CtOk (mkCx Tryz.prog S [] 0) 5 procNew.ct:=ct_mk (C:=(mkCx Tryz.prog S tab_sameChanges 0)) (mkCx_ok sigOk mixed tab_sameChanges_ok 0) procNew.dec_ok (fun x=>rfl) 4 (fun x _=>(procNew.nf_ok x.1 x.2.1 x.2.2 _).mpr (procNew.key x.1 x.2.1 x.2.2 _ rfl))
def tab_procNew:List (FuncId×Ct El):= (5,procNew.ct):: tab_sameProcs
theorem tab_procNew_ok:TabOk Tryz.prog S tab_procNew:=⟨procNew.ok,by kernel_rfl,tab_sameProcs_ok⟩
def r28New.res (r:Procs): AV El:=Procs.av (r)
def r28New.news (r:Procs): List (AObj El):= []
def r28New.L (e v:Procs): Prop:=r28New.res e=r28New.res v∧r28New.news e=r28New.news v
def r28New (role:Int) (features:Int) (limit:Int): Procs:=cond (role==1) ((⟨(1),((-1)),(0),([]),((-1)),(0),([]),(false),(features),(0),(false),(false),((-1)),(27),(minI (maxI limit 27) 251),(0),(0),(0),(0),(0)⟩: Procs)) ((⟨(0),((-1)),(0),([]),((-1)),(0),([]),(false),(features),(0),(false),(false),((-1)),(27),(minI (maxI limit 27) 251),(0),(0),(0),(0),(0)⟩: Procs))
def r28New.dec (cs:List (AV El)): Option (Int×Int×Int):= popI .i64 cs fun a0 c0=>popI .u64 c0 fun a1 c1=>popI .i64 c1 fun a2 c2=>popE c2 (a0,a1,a2)
def r28New.enc (x:Int×Int×Int): List (AV El):= [.v (.int .i64 x.1), .v (.int .u64 x.2.1), .v (.int .i64 x.2.2)]
theorem r28New.dec_ok : ∀cs x,r28New.dec cs=some x→Imp (S:=S) cs (r28New.enc x):= by
 intro cs x h
 unfold r28New.dec at h
 obtain ⟨a0,c0,rfl,h0⟩:= popI_some (S:=S) h
 obtain ⟨a1,c1,rfl,h1⟩:= popI_some (S:=S) h0
 obtain ⟨a2,c2,rfl,h2⟩:= popI_some (S:=S) h1
 obtain ⟨rfl,rfl⟩:= popE_some (S:=S) h2
 exact (.cons (.cons (.cons (.refl _))))
def r28New.nf (role:Int) (features:Int) (limit:Int) (v:Procs): Prop:=cond (role==1) (r28New.L ((⟨(1),((-1)),(0),([]),((-1)),(0),([]),(false),(features),(0),(false),(false),((-1)),(27),(minI (maxI limit 27) 251),(0),(0),(0),(0),(0)⟩: Procs)) v) (r28New.L ((⟨(0),((-1)),(0),([]),((-1)),(0),([]),(false),(features),(0),(false),(false),((-1)),(27),(minI (maxI limit 27) 251),(0),(0),(0),(0),(0)⟩: Procs)) v)
theorem r28New.nf_ok (role:Int) (features:Int) (limit:Int) (v:Procs): evFun (mkCx Tryz.prog S tab_sameChanges 0) 4 6 [.v (.int .i64 role), .v (.int .u64 features), .v (.int .i64 limit)] [] (fun r' H'=>Gives r' H' (r28New.res v) (r28New.news v))= r28New.nf role features limit v:=by kernel_rfl
theorem r28New.key (role:Int) (features:Int) (limit:Int) (v:Procs) (hv:v=r28New role features limit): r28New.nf role features limit v:=by
 unfold r28New at hv
 unfold r28New.nf
 revert hv;refine by_cond2 (fun hb hv=>?_) (fun hb hv=>?_)
 ·subst hv;exact ⟨rfl,rfl⟩
 ·subst hv;exact ⟨rfl,rfl⟩
def r28New.ct:Ct El:=ctOf r28New.dec (fun _=>[]) (fun x=>r28New.res (r28New x.1 x.2.1 x.2.2)) (fun x=>r28New.news (r28New x.1 x.2.1 x.2.2))
theorem r28New.ok:CtOk (mkCx Tryz.prog S [] 0) 6 r28New.ct:=ct_mk (C:=(mkCx Tryz.prog S tab_sameChanges 0)) (mkCx_ok sigOk mixed tab_sameChanges_ok 0) r28New.dec_ok (fun x=>rfl) 4 (fun x _=>(r28New.nf_ok x.1 x.2.1 x.2.2 _).mpr (r28New.key x.1 x.2.1 x.2.2 _ rfl))
def tab_r28New:List (FuncId×Ct El):= (6,r28New.ct):: tab_procNew
theorem tab_r28New_ok:TabOk Tryz.prog S tab_r28New:=⟨r28New.ok,by kernel_rfl,tab_procNew_ok⟩
end Go.Aw.W
