/- Contracts of the seat (printed by ct.py). -/
import Derived.Test.YtppceadhdckpmaaGreatDoorXW12
set_option linter.unusedVariables false
set_option linter.unusedSimpArgs false
set_option maxRecDepth 20000
set_option maxHeartbeats 1000000
namespace Go.Aw.W
open Go Go.Aw Go.Proofs
attribute [local irreducible] evCode evFun evOps evDs evOne ctxK loopK loopB subC bodyC headS okH roundK
def r17CheckUpdate.res (r:Int): AV El:=.v (.int .i64 (r))
def r17CheckUpdate.news (r:Int): List (AObj El):= []
def r17CheckUpdate.L (e v:Int): Prop:=r17CheckUpdate.res e=r17CheckUpdate.res v∧r17CheckUpdate.news e=r17CheckUpdate.news v
def r17CheckUpdate (u:Update): Int:=cond (bif bif bif bif !r17within u.WinSize (1:Int) (8:Int) then true else !r17within u.WinOffset (0:Int) (3200:Int) then true else !r17within u.Interval (6:Int) (3200:Int) then true else !r17within u.Latency (0:Int) (499:Int) then true else !r17within u.Timeout (10:Int) (3200:Int)) ((5:Int)) (cond (bif bif decide (u.Interval≤u.WinSize) then true else decide (u.Interval < u.WinOffset) then true else decide (IntKind.wrap IntKind.i64 (u.Timeout*(10000:Int))≤IntKind.wrap IntKind.i64 (IntKind.wrap IntKind.i64 (IntKind.wrap IntKind.i64 ((2:Int)* IntKind.wrap IntKind.i64 (u.Latency+(1:Int)))* u.Interval)* (1250:Int)))) ((11:Int)) ((0:Int)))
def r17CheckUpdate.dec (cs:List (AV El)): Option (Update):= popA Update.dec cs fun a0 c0=>popE c0 a0
def r17CheckUpdate.enc (x:Update): List (AV El):= [Update.av x]
theorem r17CheckUpdate.dec_ok : ∀cs x,r17CheckUpdate.dec cs=some x→Imp (S:=S) cs (r17CheckUpdate.enc x):= by
 intro cs x h
 unfold r17CheckUpdate.dec at h
 obtain ⟨a0,c0,h0,k0⟩:= popA_some (S:=S) Update.dec_ok h
 obtain ⟨rfl,rfl⟩:= popE_some (S:=S) h0
 exact (k0 _ (.refl _))
def r17CheckUpdate.nf (u:Update) (v:Int): Prop:=Ob (o3 (!!r17within u.WinSize (1:Int) (8:Int)))∧(Ob (o3 (!!r17within u.WinSize (1:Int) (8:Int)))∧(Ob (o3 (!!r17within u.WinSize (1:Int) (8:Int)))∧(Ob (on (!r17within u.WinSize (1:Int) (8:Int)))∧(Ob (o3 (!bif !r17within u.WinSize (1:Int) (8:Int) then true else !r17within u.WinOffset (0:Int) (3200:Int)))∧(Ob (o3 (!bif !r17within u.WinSize (1:Int) (8:Int) then true else !r17within u.WinOffset (0:Int) (3200:Int)))∧(Ob (o3 (!bif !r17within u.WinSize (1:Int) (8:Int) then true else !r17within u.WinOffset (0:Int) (3200:Int)))∧(Ob (on (bif !r17within u.WinSize (1:Int) (8:Int) then true else !r17within u.WinOffset (0:Int) (3200:Int)))∧(Ob (o3 (!bif bif !r17within u.WinSize (1:Int) (8:Int) then true else !r17within u.WinOffset (0:Int) (3200:Int) then true else !r17within u.Interval (6:Int) (3200:Int)))∧(Ob (o3 (!bif bif !r17within u.WinSize (1:Int) (8:Int) then true else !r17within u.WinOffset (0:Int) (3200:Int) then true else !r17within u.Interval (6:Int) (3200:Int)))∧(Ob (o3 (!bif bif !r17within u.WinSize (1:Int) (8:Int) then true else !r17within u.WinOffset (0:Int) (3200:Int) then true else !r17within u.Interval (6:Int) (3200:Int)))∧(Ob (on (bif bif !r17within u.WinSize (1:Int) (8:Int) then true else !r17within u.WinOffset (0:Int) (3200:Int) then true else !r17within u.Interval (6:Int) (3200:Int)))∧(Ob (o3 (!bif bif bif !r17within u.WinSize (1:Int) (8:Int) then true else !r17within u.WinOffset (0:Int) (3200:Int) then true else !r17within u.Interval (6:Int) (3200:Int) then true else !r17within u.Latency (0:Int) (499:Int)))∧(Ob (o3 (!bif bif bif !r17within u.WinSize (1:Int) (8:Int) then true else !r17within u.WinOffset (0:Int) (3200:Int) then true else !r17within u.Interval (6:Int) (3200:Int) then true else !r17within u.Latency (0:Int) (499:Int)))∧(Ob (o3 (!bif bif bif !r17within u.WinSize (1:Int) (8:Int) then true else !r17within u.WinOffset (0:Int) (3200:Int) then true else !r17within u.Interval (6:Int) (3200:Int) then true else !r17within u.Latency (0:Int) (499:Int)))∧(Ob (on (bif bif bif !r17within u.WinSize (1:Int) (8:Int) then true else !r17within u.WinOffset (0:Int) (3200:Int) then true else !r17within u.Interval (6:Int) (3200:Int) then true else !r17within u.Latency (0:Int) (499:Int)))∧(cond (bif bif bif bif !r17within u.WinSize (1:Int) (8:Int) then true else !r17within u.WinOffset (0:Int) (3200:Int) then true else !r17within u.Interval (6:Int) (3200:Int) then true else !r17within u.Latency (0:Int) (499:Int) then true else !r17within u.Timeout (10:Int) (3200:Int)) (r17CheckUpdate.L ((5:Int)) v) (Ob (o3 (!decide (u.Interval≤u.WinSize)))∧(Ob (o3 (!decide (u.Interval≤u.WinSize)))∧(Ob (o3 (!decide (u.Interval≤u.WinSize)))∧(Ob (o3 (!decide (u.Interval≤u.WinSize)))∧(Ob (on (decide (u.Interval≤u.WinSize)))∧(Ob (o3 (!bif decide (u.Interval≤u.WinSize) then true else decide (u.Interval < u.WinOffset)))∧(Ob (o3 (!bif decide (u.Interval≤u.WinSize) then true else decide (u.Interval < u.WinOffset)))∧(Ob (o3 (!bif decide (u.Interval≤u.WinSize) then true else decide (u.Interval < u.WinOffset)))∧(Ob (o3 (!bif decide (u.Interval≤u.WinSize) then true else decide (u.Interval < u.WinOffset)))∧(Ob (o3 (!bif decide (u.Interval≤u.WinSize) then true else decide (u.Interval < u.WinOffset)))∧(Ob (o3 (!bif decide (u.Interval≤u.WinSize) then true else decide (u.Interval < u.WinOffset)))∧(Ob (o3 (!bif decide (u.Interval≤u.WinSize) then true else decide (u.Interval < u.WinOffset)))∧(Ob (o3 (!bif decide (u.Interval≤u.WinSize) then true else decide (u.Interval < u.WinOffset)))∧(Ob (o3 (!bif decide (u.Interval≤u.WinSize) then true else decide (u.Interval < u.WinOffset)))∧(Ob (o3 (!bif decide (u.Interval≤u.WinSize) then true else decide (u.Interval < u.WinOffset)))∧(Ob (o3 (!bif decide (u.Interval≤u.WinSize) then true else decide (u.Interval < u.WinOffset)))∧(Ob (on (bif decide (u.Interval≤u.WinSize) then true else decide (u.Interval < u.WinOffset)))∧(cond (bif bif decide (u.Interval≤u.WinSize) then true else decide (u.Interval < u.WinOffset) then true else decide (IntKind.wrap IntKind.i64 (u.Timeout*(10000:Int))≤IntKind.wrap IntKind.i64 (IntKind.wrap IntKind.i64 (IntKind.wrap IntKind.i64 ((2:Int)* IntKind.wrap IntKind.i64 (u.Latency+(1:Int)))* u.Interval)* (1250:Int)))) (r17CheckUpdate.L ((11:Int)) v) (r17CheckUpdate.L ((0:Int)) v)))))))))))))))))))))))))))))))))))
theorem r17CheckUpdate.nf_ok (u:Update) (v:Int): evFun (mkCxI Tryz.prog S tab_aForm 0 false sum_fIdx) 4 77 [Update.av u] [] (fun r' H'=>Gives r' H' (r17CheckUpdate.res v) (r17CheckUpdate.news v))= r17CheckUpdate.nf u v:=by kernel_rfl
theorem r17CheckUpdate.key (u:Update) (v:Int) (hv:v=r17CheckUpdate u): r17CheckUpdate.nf u v:=by
 unfold r17CheckUpdate at hv
 unfold r17CheckUpdate.nf
 iterate 3 refine ⟨⟨o3_ok _⟩, ?_⟩
 refine ⟨⟨on_ok _⟩, ?_⟩
 iterate 3 refine ⟨⟨o3_ok _⟩, ?_⟩
 refine ⟨⟨on_ok _⟩, ?_⟩
 iterate 3 refine ⟨⟨o3_ok _⟩, ?_⟩
 refine ⟨⟨on_ok _⟩, ?_⟩
 iterate 3 refine ⟨⟨o3_ok _⟩, ?_⟩
 refine ⟨⟨on_ok _⟩, ?_⟩
 revert hv;refine by_cond2 (fun hb hv=>?_) (fun hb hv=>?_)
 ·subst hv;exact ⟨rfl,rfl⟩
 ·refine ⟨⟨o3_ok _⟩, ?_⟩
  iterate 3 refine ⟨⟨o3_ok _⟩, ?_⟩
  refine ⟨⟨on_ok _⟩, ?_⟩
  iterate 11 refine ⟨⟨o3_ok _⟩, ?_⟩
  refine ⟨⟨on_ok _⟩, ?_⟩
  revert hv;refine by_cond2 (fun hb hv=>?_) (fun hb hv=>?_)
  ·subst hv;exact ⟨rfl,rfl⟩
  ·subst hv;exact ⟨rfl,rfl⟩
def r17CheckUpdate.ct:Ct El:=ctOf r17CheckUpdate.dec (fun _=>[]) (fun x=>r17CheckUpdate.res (r17CheckUpdate x)) (fun x=>r17CheckUpdate.news (r17CheckUpdate x))
theorem r17CheckUpdate.ok:CtOk (mkCx Tryz.prog S [] 0) 77 r17CheckUpdate.ct:=ct_mk (C:=(mkCxI Tryz.prog S tab_aForm 0 false sum_fIdx)) (mkCxI_ok sigOk mixed tab_aForm_ok 0 false sum_fIdx_ok) r17CheckUpdate.dec_ok (fun x=>rfl) 4 (fun x _=>(r17CheckUpdate.nf_ok x _).mpr (r17CheckUpdate.key x _ rfl))
def tab_r17CheckUpdate:List (FuncId×Ct El):= (77,r17CheckUpdate.ct):: tab_aForm
theorem tab_r17CheckUpdate_ok:TabOk Tryz.prog S tab_r17CheckUpdate:=⟨r17CheckUpdate.ok,by kernel_rfl,tab_aForm_ok⟩
def r1Power.res (r:Int): AV El:=.v (.int .u64 (r))
def r1Power.news (r:Int): List (AObj El):= []
def r1Power.L (e v:Int): Prop:=r1Power.res e=r1Power.res v∧r1Power.news e=r1Power.news v
def r1Power.go (bits:Int): Nat→Int→Int→Int
 | 0,_,_=>0
 | n0+1,i,p=>cond (decide (i < bits)) (r1Power.go bits n0 (IntKind.wrap IntKind.i64 (i+(1:Int))) (IntKind.wrap IntKind.u64 (p*(2:Int)))) (p)
def r1Power.hd (bits:Int) (i:Int) (p:Int): St El:={lo:=0,slots:=[(4, .v (.int .i64 (i))),(3, .v (.int .u64 (p))),(0, .v (.int .i64 (bits)))],n:=13,objs:=[]}
def r1Power.st (bits:Int) (i:Int) (p:Int) (J:St El→Prop) (v:Int): Prop:=cond (decide (i < bits)) (J (r1Power.hd bits (IntKind.wrap IntKind.i64 (i+(1:Int))) (IntKind.wrap IntKind.u64 (p*(2:Int))))) (r1Power.L (p) v)
theorem r1Power.st_ok (bits:Int) (i:Int) (p:Int) (J:St El→Prop) (v:Int): evCode (mkCxI Tryz.prog S tab_r17CheckUpdate 0 false sum_fIdx) (evFun (mkCxI Tryz.prog S tab_r17CheckUpdate 0 false sum_fIdx) 3) (loopB Tryz.prog 87 [true,true,false,true,false]) (r1Power.hd bits i p) (roundK (C:=(mkCxI Tryz.prog S tab_r17CheckUpdate 0 false sum_fIdx)) [4,3,0] [] J (loopK (mkCxI Tryz.prog S tab_r17CheckUpdate 0 false sum_fIdx) 3 87 [true,true,false,true,false] (fun r' H'=>Gives r' H' (r1Power.res v) (r1Power.news v))))= r1Power.st bits i p J v:=by kernel_rfl
def r1Power.rng (bits:Int) (n0:Nat) (i:Int) (p:Int): Prop:=0≤i∧(bits - i).toNat < n0
theorem r1Power.lp (bits:Int) (hp:bits≤9223372036854775807) (v:Int) (n0:Nat) (i:Int) (p:Int) (hv:v=r1Power.go bits n0 i p) (h0:r1Power.rng bits n0 i p) (st:St El) (q1:okH [4,3,0] [] st=true) (q2:headS [4,3,0] [] st=r1Power.hd bits i p): evCode (mkCxI Tryz.prog S tab_r17CheckUpdate 0 false sum_fIdx) (evFun (mkCxI Tryz.prog S tab_r17CheckUpdate 0 false sum_fIdx) 3) (.loop (loopB Tryz.prog 87 [true,true,false,true,false])) st (loopK (mkCxI Tryz.prog S tab_r17CheckUpdate 0 false sum_fIdx) 3 87 [true,true,false,true,false] (fun r' H'=>Gives r' H' (r1Power.res v) (r1Power.news v))):= by
 refine loop_ev (by kernel_rfl) (evFun_mono _ _) [4,3,0] [] (X:=Nat×Int×Int) (fun x=>r1Power.hd bits x.2.1 x.2.2) (fun x=>x.1) (fun x=>r1Power.rng bits x.1 x.2.1 x.2.2∧v=r1Power.go bits x.1 x.2.1 x.2.2) (n0,i,p) ⟨q1,q2⟩ ⟨h0,hv⟩ ?_
 clear h0 hv q1 q2
 rintro ⟨n0,i,p⟩ ⟨hr,hv⟩
 dsimp only at hr hv
 cases n0 with
 | zero=>exact absurd hr (by unfold r1Power.rng;omega)
 | succ n0 =>
 unfold r1Power.rng at hr
 unfold r1Power.go at hv
 refine (r1Power.st_ok bits i p _ _).mpr ?_
 unfold r1Power.st
 revert hv;refine by_cond2 (fun hb hv=>?_) (fun hb hv=>?_)
 ·exact ⟨(n0,(IntKind.wrap IntKind.i64 (i+(1:Int))),(IntKind.wrap IntKind.u64 (p*(2:Int)))),(by kernel_rfl),Nat.lt_succ_self n0,(by dsimp only;unfold r1Power.rng;(try clear hv);(try clear q1 q2);(try clear hk);(try simp only [decide_eq_true_eq,decide_eq_false_iff_not,Bool.not_eq_true,Bool.not_eq_false,Bool.and_eq_true,Bool.or_eq_true,Bool.not_not,cond_and,cond_or,List.length_append,List.length_cons,List.length_nil] at *);have:=wi64s (i+(1:Int));have:=wu64s (p*(2:Int));omega),hv⟩
 ·subst hv;exact ⟨rfl,rfl⟩
def r1Power (bits:Int): Int:=r1Power.go bits (bits.toNat+1) ((0:Int)) ((1:Int))
def r1Power.dec (cs:List (AV El)): Option (Int):= popI .i64 cs fun a0 c0=>popE c0 a0
def r1Power.enc (x:Int): List (AV El):= [.v (.int .i64 x)]
theorem r1Power.dec_ok : ∀cs x,r1Power.dec cs=some x→Imp (S:=S) cs (r1Power.enc x):= by
 intro cs x h
 unfold r1Power.dec at h
 obtain ⟨a0,c0,rfl,h0⟩:= popI_some (S:=S) h
 obtain ⟨rfl,rfl⟩:= popE_some (S:=S) h0
 exact (.cons (.refl _))
def r1Power.nf (bits:Int) (v:Int): Prop:=evCode (mkCxI Tryz.prog S tab_r17CheckUpdate 0 false sum_fIdx) (evFun (mkCxI Tryz.prog S tab_r17CheckUpdate 0 false sum_fIdx) 3) (.loop (loopB Tryz.prog 87 [true,true,false,true,false])) ({lo:=0,slots:=[(4, .v (.int .i64 ((0:Int)))),(3, .v (.int .u64 ((1:Int)))),(2, .v (.int .u64 ((0:Int)))),(0, .v (.int .i64 (bits)))],n:=13,objs:=[]}) (loopK (mkCxI Tryz.prog S tab_r17CheckUpdate 0 false sum_fIdx) 3 87 [true,true,false,true,false] (fun r' H'=>Gives r' H' (r1Power.res v) (r1Power.news v)))
theorem r1Power.nf_ok (bits:Int) (v:Int): evFun (mkCxI Tryz.prog S tab_r17CheckUpdate 0 false sum_fIdx) 4 87 [.v (.int .i64 bits)] [] (fun r' H'=>Gives r' H' (r1Power.res v) (r1Power.news v))= r1Power.nf bits v:=by kernel_rfl
theorem r1Power.key (bits:Int) (hp:bits≤9223372036854775807) (v:Int) (hv:v=r1Power bits): r1Power.nf bits v:=by
 unfold r1Power at hv
 unfold r1Power.nf
 exact r1Power.lp bits hp v _ _ _ hv (by unfold r1Power.rng;(try clear hv);(try clear q1 q2);(try clear hk);(first | omega | (simp only [List.length_nil];omega)| (simp;omega))) _ (by kernel_rfl) (by kernel_rfl)
def r1Power.ct:Ct El:=ctOf r1Power.dec (fun x=>[x≤9223372036854775807]) (fun x=>r1Power.res (r1Power x)) (fun x=>r1Power.news (r1Power x))
theorem r1Power.ok:CtOk (mkCx Tryz.prog S [] 0) 87 r1Power.ct:=ct_mk (C:=(mkCxI Tryz.prog S tab_r17CheckUpdate 0 false sum_fIdx)) (mkCxI_ok sigOk mixed tab_r17CheckUpdate_ok 0 false sum_fIdx_ok) r1Power.dec_ok (fun x=>rfl) 4 (fun x hp=>(r1Power.nf_ok x _).mpr (r1Power.key x (hp _ (List.mem_singleton.2 rfl)) _ rfl))
def tab_r1Power:List (FuncId×Ct El):= (87,r1Power.ct):: tab_r17CheckUpdate
theorem tab_r1Power_ok:TabOk Tryz.prog S tab_r1Power:=⟨r1Power.ok,by kernel_rfl,tab_r17CheckUpdate_ok⟩
def cwithin.res (r:Bool): AV El:=.v (.bool (r))
def cwithin.news (r:Bool): List (AObj El):= []
def cwithin.L (e v:Bool): Prop:=cwithin.res e=cwithin.res v∧cwithin.news e=cwithin.news v
def cwithin.go (all:List ConnectSpan): Nat→Int→Bool
 | 0,_=>false
 | n0+1,i=>cond (decide (i < (↑(List.length all): Int))) (cond (bif decide ((List.getD all (Int.toNat i) ConnectSpan.zero).n < (List.getD all (Int.toNat i) ConnectSpan.zero).low) then true else decide ((List.getD all (Int.toNat i) ConnectSpan.zero).high < (List.getD all (Int.toNat i) ConnectSpan.zero).n)) (false) (cwithin.go all n0 (IntKind.wrap IntKind.i64 (i+(1:Int))))) (true)
def cwithin.hd (all:List ConnectSpan) (i:Int): St El:={lo:=0,slots:=[(7, .v (.int .i64 (i))),(6, .v (.int .i64 ((↑(List.length all): Int)))),(5, .sl 114 (all:List (El 114)) false)],n:=24,objs:=[]}
def cwithin.st (all:List ConnectSpan) (i:Int) (J:St El→Prop) (v:Bool): Prop:=cond (decide (i < (↑(List.length all): Int))) (Ob ((0:Int)≤i∧i < (↑(List.length all): Int))∧(Ob (o3 (!decide ((List.getD all (Int.toNat i) ConnectSpan.zero).n < (List.getD all (Int.toNat i) ConnectSpan.zero).low)))∧(Ob (o3 (!decide ((List.getD all (Int.toNat i) ConnectSpan.zero).n < (List.getD all (Int.toNat i) ConnectSpan.zero).low)))∧(Ob (o3 (!decide ((List.getD all (Int.toNat i) ConnectSpan.zero).n < (List.getD all (Int.toNat i) ConnectSpan.zero).low)))∧(Ob (o3 (!decide ((List.getD all (Int.toNat i) ConnectSpan.zero).n < (List.getD all (Int.toNat i) ConnectSpan.zero).low)))∧(Ob (on (decide ((List.getD all (Int.toNat i) ConnectSpan.zero).n < (List.getD all (Int.toNat i) ConnectSpan.zero).low)))∧(cond (bif decide ((List.getD all (Int.toNat i) ConnectSpan.zero).n < (List.getD all (Int.toNat i) ConnectSpan.zero).low) then true else decide ((List.getD all (Int.toNat i) ConnectSpan.zero).high < (List.getD all (Int.toNat i) ConnectSpan.zero).n)) (cwithin.L (false) v) (J (cwithin.hd all (IntKind.wrap IntKind.i64 (i+(1:Int)))))))))))) (cwithin.L (true) v)
theorem cwithin.st_ok (all:List ConnectSpan) (i:Int) (J:St El→Prop) (v:Bool): evCode (mkCxI Tryz.prog S tab_r1Power 0 false sum_fIdx) (evFun (mkCxI Tryz.prog S tab_r1Power 0 false sum_fIdx) 3) (loopB Tryz.prog 75 [true,false,true,false]) (cwithin.hd all i) (roundK (C:=(mkCxI Tryz.prog S tab_r1Power 0 false sum_fIdx)) [7,6,5] [] J (loopK (mkCxI Tryz.prog S tab_r1Power 0 false sum_fIdx) 3 75 [true,false,true,false] (fun r' H'=>Gives r' H' (cwithin.res v) (cwithin.news v))))= cwithin.st all i J v:=by kernel_rfl
def cwithin.rng (all:List ConnectSpan) (n0:Nat) (i:Int): Prop:=0≤i∧i≤all.length∧(all.length - i).toNat < n0∧all.length≤9223372036854775807
theorem cwithin.lp (all:List ConnectSpan) (v:Bool) (n0:Nat) (i:Int) (hv:v=cwithin.go all n0 i) (h0:cwithin.rng all n0 i) (st:St El) (q1:okH [7,6,5] [] st=true) (q2:headS [7,6,5] [] st=cwithin.hd all i): evCode (mkCxI Tryz.prog S tab_r1Power 0 false sum_fIdx) (evFun (mkCxI Tryz.prog S tab_r1Power 0 false sum_fIdx) 3) (.loop (loopB Tryz.prog 75 [true,false,true,false])) st (loopK (mkCxI Tryz.prog S tab_r1Power 0 false sum_fIdx) 3 75 [true,false,true,false] (fun r' H'=>Gives r' H' (cwithin.res v) (cwithin.news v))):= by
 refine loop_ev (by kernel_rfl) (evFun_mono _ _) [7,6,5] [] (X:=Nat×Int) (fun x=>cwithin.hd all x.2) (fun x=>x.1) (fun x=>cwithin.rng all x.1 x.2∧v=cwithin.go all x.1 x.2) (n0,i) ⟨q1,q2⟩ ⟨h0,hv⟩ ?_
 clear h0 hv q1 q2
 rintro ⟨n0,i⟩ ⟨hr,hv⟩
 dsimp only at hr hv
 cases n0 with
 | zero=>exact absurd hr (by unfold cwithin.rng;omega)
 | succ n0 =>
 unfold cwithin.rng at hr
 unfold cwithin.go at hv
 refine (cwithin.st_ok all i _ _).mpr ?_
 unfold cwithin.st
 revert hv;refine by_cond2 (fun hb hv=>?_) (fun hb hv=>?_)
 ·refine ⟨⟨by (try clear hv);(try clear q1 q2);(try clear hk);(first | omega | ((try simp only [decide_eq_true_eq,decide_eq_false_iff_not,Bool.not_eq_true,Bool.not_eq_false,Bool.and_eq_true,Bool.or_eq_true,Bool.not_not,cond_and,cond_or,List.length_append,List.length_cons,List.length_nil] at *);(first | done | ((first | omega | (intros;(try simp only [Bool.not_not,cond_and,cond_or,Bool.and_eq_true,decide_eq_true_eq] at *);(exact ⟨by decide,by simp⟩))| (intros;(try simp only [Bool.not_not,cond_and,cond_or,Bool.and_eq_true,decide_eq_true_eq] at *);(exact pDerive_len _ _ (by omega) (by omega)))| (intros;(try simp only [Bool.not_not,cond_and,cond_or,Bool.and_eq_true,decide_eq_true_eq] at *);(exact pDerive_len2 _ _ (by omega) (by omega)))| (intros;(try simp only [Bool.not_not,cond_and,cond_or,Bool.and_eq_true,decide_eq_true_eq] at *);(exact band_nn rfl _ _))| (intros;(try simp only [Bool.not_not,cond_and,cond_or,Bool.and_eq_true,decide_eq_true_eq] at *);(exact (wu64s _).2.1))| (intros;(try simp only [Bool.not_not,cond_and,cond_or,Bool.and_eq_true,decide_eq_true_eq] at *);(simp only [Bool.or_eq_false_iff,Bool.and_eq_false_iff,decide_eq_false_iff_not,decide_eq_true_eq,bne_iff_ne,beq_iff_eq,bne_eq_false_iff_eq,beq_eq_false_iff_ne,ne_eq,true_and] at *;omega))| (intros;(try simp only [Bool.not_not,cond_and,cond_or,Bool.and_eq_true,decide_eq_true_eq] at *);(simp only [List.length_drop,List.length_take,List.length_append,List.length_cons,List.length_nil] at *;omega))| (intros;omega)| (intros;simp only [sized_iff,Bool.not_not,cond_and,cond_or,Bool.and_eq_true,decide_eq_true_eq] at *;omega)| (intros;simp_all [sized_iff,Bool.not_not];done))))))⟩, ?_⟩
  iterate 4 refine ⟨⟨o3_ok _⟩, ?_⟩
  refine ⟨⟨on_ok _⟩, ?_⟩
  revert hv;refine by_cond2 (fun hb hv=>?_) (fun hb hv=>?_)
  ·subst hv;exact ⟨rfl,rfl⟩
  ·exact ⟨(n0,(IntKind.wrap IntKind.i64 (i+(1:Int)))),(by kernel_rfl),Nat.lt_succ_self n0,(by dsimp only;unfold cwithin.rng;(try clear hv);(try clear q1 q2);(try clear hk);(try simp only [decide_eq_true_eq,decide_eq_false_iff_not,Bool.not_eq_true,Bool.not_eq_false,Bool.and_eq_true,Bool.or_eq_true,Bool.not_not,cond_and,cond_or,List.length_append,List.length_cons,List.length_nil] at *);have:=wi64s (i+(1:Int));omega),hv⟩
 ·subst hv;exact ⟨rfl,rfl⟩
def cwithin (all:List ConnectSpan): Bool:=cwithin.go all (all.length+1) ((0:Int))
def cwithin.dec (cs:List (AV El)): Option ((List ConnectSpan)):= popS 114 cs fun a0 c0=>popE c0 a0
def cwithin.enc (x:(List ConnectSpan)): List (AV El):= [.sl 114 (x:List (El 114)) false]
theorem cwithin.dec_ok : ∀cs x,cwithin.dec cs=some x→Imp (S:=S) cs (cwithin.enc x):= by
 intro cs x h
 unfold cwithin.dec at h
 obtain ⟨a0,c0,h0,k0⟩:= popS_some (S:=S) (t:=114) h
 obtain ⟨rfl,rfl⟩:= popE_some (S:=S) h0
 exact (k0 _ (.refl _))
def cwithin.nf (all:List ConnectSpan) (v:Bool): Prop:=(List.length all≤(9223372036854775807:Nat))→(evCode (mkCxI Tryz.prog S tab_r1Power 0 false sum_fIdx) (evFun (mkCxI Tryz.prog S tab_r1Power 0 false sum_fIdx) 3) (.loop (loopB Tryz.prog 75 [true,false,true,false])) ({lo:=0,slots:=[(7, .v (.int .i64 ((0:Int)))),(6, .v (.int .i64 ((↑(List.length all): Int)))),(5, .sl 114 (all:List (El 114)) false),(2, .v (.bool (false))),(0, .sl 114 (all:List (El 114)) false)],n:=24,objs:=[]}) (loopK (mkCxI Tryz.prog S tab_r1Power 0 false sum_fIdx) 3 75 [true,false,true,false] (fun r' H'=>Gives r' H' (cwithin.res v) (cwithin.news v))))
theorem cwithin.nf_ok (all:List ConnectSpan) (v:Bool): evFun (mkCxI Tryz.prog S tab_r1Power 0 false sum_fIdx) 4 75 [.sl 114 (all:List (El 114)) false] [] (fun r' H'=>Gives r' H' (cwithin.res v) (cwithin.news v))= cwithin.nf all v:=by kernel_rfl
theorem cwithin.key (all:List ConnectSpan) (v:Bool) (hv:v=cwithin all): cwithin.nf all v:=by
 unfold cwithin at hv
 unfold cwithin.nf
 intro hlen
 exact cwithin.lp all v _ _ hv (by unfold cwithin.rng;(try clear hv);(try clear q1 q2);(try clear hk);(first | omega | (simp only [List.length_nil];omega)| (simp;omega))) _ (by kernel_rfl) (by kernel_rfl)
def cwithin.ct:Ct El:=ctOf cwithin.dec (fun _=>[]) (fun x=>cwithin.res (cwithin x)) (fun x=>cwithin.news (cwithin x))
theorem cwithin.ok:CtOk (mkCx Tryz.prog S [] 0) 75 cwithin.ct:=ct_mk (C:=(mkCxI Tryz.prog S tab_r1Power 0 false sum_fIdx)) (mkCxI_ok sigOk mixed tab_r1Power_ok 0 false sum_fIdx_ok) cwithin.dec_ok (fun x=>rfl) 4 (fun x _=>(cwithin.nf_ok x _).mpr (cwithin.key x _ rfl))
def tab_cwithin:List (FuncId×Ct El):= (75,cwithin.ct):: tab_r1Power
theorem tab_cwithin_ok:TabOk Tryz.prog S tab_cwithin:=⟨cwithin.ok,by kernel_rfl,tab_r1Power_ok⟩
end Go.Aw.W
