/- Contracts of the seat (printed by ct.py). -/
import Derived.Test.YtlnbhdcaebmffaaGreatXW1
set_option linter.unusedVariables false
set_option linter.unusedSimpArgs false
set_option maxRecDepth 20000
set_option maxHeartbeats 1000000
namespace Go.Aw.W
open Go Go.Aw Go.Proofs
attribute [local irreducible] evCode evFun evOps evDs evOne ctxK loopK loopB subC bodyC headS okH roundK
def cwithin.res (r:Bool): AV El:=.v (.bool (r))
def cwithin.news (r:Bool): List (AObj El):= []
def cwithin.L (e v:Bool): Prop:=cwithin.res e=cwithin.res v∧cwithin.news e=cwithin.news v
def cwithin.go (all:List ConnectSpan): Nat→Int→Bool
 | 0,_=>false
 | n0+1,i=>cond (decide (i < (↑(List.length all): Int))) (cond (bif decide ((List.getD all (Int.toNat i) ConnectSpan.zero).n < (List.getD all (Int.toNat i) ConnectSpan.zero).low) then true else decide ((List.getD all (Int.toNat i) ConnectSpan.zero).high < (List.getD all (Int.toNat i) ConnectSpan.zero).n)) (false) (cwithin.go all n0 (IntKind.wrap IntKind.i64 (i+(1:Int))))) (true)
def cwithin.hd (all:List ConnectSpan) (i:Int): St El:={lo:=0,slots:=[(7, .v (.int .i64 (i))),(6, .v (.int .i64 ((↑(List.length all): Int)))),(5, .sl 131 (all:List (El 131)) false)],n:=24,objs:=[]}
def cwithin.st (all:List ConnectSpan) (i:Int) (J:St El→Prop) (v:Bool): Prop:=cond (decide (i < (↑(List.length all): Int))) (Ob (0≤i∧i < (↑(List.length all): Int))∧(Ob (o3 (!decide ((List.getD all (Int.toNat i) ConnectSpan.zero).n < (List.getD all (Int.toNat i) ConnectSpan.zero).low)))∧(Ob (o3 (!decide ((List.getD all (Int.toNat i) ConnectSpan.zero).n < (List.getD all (Int.toNat i) ConnectSpan.zero).low)))∧(Ob (o3 (!decide ((List.getD all (Int.toNat i) ConnectSpan.zero).n < (List.getD all (Int.toNat i) ConnectSpan.zero).low)))∧(Ob (o3 (!decide ((List.getD all (Int.toNat i) ConnectSpan.zero).n < (List.getD all (Int.toNat i) ConnectSpan.zero).low)))∧(Ob (on (decide ((List.getD all (Int.toNat i) ConnectSpan.zero).n < (List.getD all (Int.toNat i) ConnectSpan.zero).low)))∧(cond (bif decide ((List.getD all (Int.toNat i) ConnectSpan.zero).n < (List.getD all (Int.toNat i) ConnectSpan.zero).low) then true else decide ((List.getD all (Int.toNat i) ConnectSpan.zero).high < (List.getD all (Int.toNat i) ConnectSpan.zero).n)) (cwithin.L (false) v) (J (cwithin.hd all (IntKind.wrap IntKind.i64 (i+1))))))))))) (cwithin.L (true) v)
theorem cwithin.st_ok (all:List ConnectSpan) (i:Int) (J:St El→Prop) (v:Bool): evCode (mkCx Tryz.prog S tab_cUpd 0) (evFun (mkCx Tryz.prog S tab_cUpd 0) 3) (loopB Tryz.prog 143 [true,false,true,false]) (cwithin.hd all i) (roundK (C:=(mkCx Tryz.prog S tab_cUpd 0)) [7,6,5] [] J (loopK (mkCx Tryz.prog S tab_cUpd 0) 3 143 [true,false,true,false] (fun r' H'=>Gives r' H' (cwithin.res v) (cwithin.news v))))= cwithin.st all i J v:=by kernel_rfl
def cwithin.rng (all:List ConnectSpan) (n0:Nat) (i:Int): Prop:=0≤i∧i≤all.length∧(all.length - i).toNat < n0∧all.length≤9223372036854775807
theorem cwithin.lp (all:List ConnectSpan) (v:Bool) (n0:Nat) (i:Int) (hv:v=cwithin.go all n0 i) (h0:cwithin.rng all n0 i) (st:St El) (q1:okH [7,6,5] [] st=true) (q2:headS [7,6,5] [] st=cwithin.hd all i): evCode (mkCx Tryz.prog S tab_cUpd 0) (evFun (mkCx Tryz.prog S tab_cUpd 0) 3) (.loop (loopB Tryz.prog 143 [true,false,true,false])) st (loopK (mkCx Tryz.prog S tab_cUpd 0) 3 143 [true,false,true,false] (fun r' H'=>Gives r' H' (cwithin.res v) (cwithin.news v))):= by
 refine loop_ev (by kernel_rfl) (evFun_mono _ _) [7,6,5] [] (X:=Nat×Int) (fun x=>cwithin.hd all x.2) (fun x=>x.1) (fun x=>cwithin.rng all x.1 x.2∧v=cwithin.go all x.1 x.2) (n0,i) ⟨q1,q2⟩ ⟨h0,hv⟩ ?_
 clear h0 hv q1 q2
 rintro ⟨n0,i⟩ ⟨hr,hv⟩
 dsimp only at hr hv
 cases n0 with
 | zero=>exact absurd hr (by unfold cwithin.rng;omega)
 | succ n0 =>
 unfold cwithin.rng at hr
 unfold cwithin.go at hv
 refine (cwithin.st_ok all i _ _).mpr ?_
 unfold cwithin.st
 revert hv;refine by_cond2 (fun hb hv=>?_) (fun hb hv=>?_)
 ·refine ⟨⟨by (try clear hv);(try clear q1 q2);(try clear hk);(first | omega | ((try simp only [decide_eq_true_eq,decide_eq_false_iff_not,Bool.not_eq_true,Bool.not_eq_false,Bool.and_eq_true,Bool.or_eq_true,Bool.not_not,cond_and,cond_or,List.length_append,List.length_cons,List.length_nil] at *);(first | done | ((first | omega | (intros;(try simp only [Bool.not_not,cond_and,cond_or,Bool.and_eq_true,decide_eq_true_eq] at *);(exact band_nn rfl _ _))| (intros;(try simp only [Bool.not_not,cond_and,cond_or,Bool.and_eq_true,decide_eq_true_eq] at *);(exact (wu64s _).2.1))| (intros;(try simp only [Bool.not_not,cond_and,cond_or,Bool.and_eq_true,decide_eq_true_eq] at *);(simp only [Bool.or_eq_false_iff,Bool.and_eq_false_iff,decide_eq_false_iff_not,decide_eq_true_eq,bne_iff_ne,beq_iff_eq,bne_eq_false_iff_eq,beq_eq_false_iff_ne,ne_eq,true_and] at *;omega))| (intros;(try simp only [Bool.not_not,cond_and,cond_or,Bool.and_eq_true,decide_eq_true_eq] at *);(simp only [List.length_drop,List.length_take,List.length_append,List.length_cons,List.length_nil] at *;omega))| (intros;omega)| (intros;simp only [Bool.not_not,cond_and,cond_or,Bool.and_eq_true,decide_eq_true_eq] at *;omega)| (intros;simp_all [Bool.not_not];done))))))⟩, ?_⟩
  iterate 4 refine ⟨⟨o3_ok _⟩, ?_⟩
  refine ⟨⟨on_ok _⟩, ?_⟩
  revert hv;refine by_cond2 (fun hb hv=>?_) (fun hb hv=>?_)
  ·subst hv;exact ⟨rfl,rfl⟩
  ·exact ⟨(n0,(IntKind.wrap IntKind.i64 (i+(1:Int)))),(by kernel_rfl),Nat.lt_succ_self n0,(by dsimp only;unfold cwithin.rng;(try clear hv);(try clear q1 q2);(try clear hk);(try simp only [decide_eq_true_eq,decide_eq_false_iff_not,Bool.not_eq_true,Bool.not_eq_false,Bool.and_eq_true,Bool.or_eq_true,Bool.not_not,cond_and,cond_or,List.length_append,List.length_cons,List.length_nil] at *);have:=wi64s (i+(1:Int));omega),hv⟩
 ·subst hv;exact ⟨rfl,rfl⟩
def cwithin (all:List ConnectSpan): Bool:=cwithin.go all (all.length+1) ((0:Int))
def cwithin.dec (cs:List (AV El)): Option ((List ConnectSpan)):= popS 131 cs fun a0 c0=>popE c0 a0
def cwithin.enc (x:(List ConnectSpan)): List (AV El):= [.sl 131 (x:List (El 131)) false]
theorem cwithin.dec_ok : ∀cs x,cwithin.dec cs=some x→Imp (S:=S) cs (cwithin.enc x):= by
 intro cs x h
 unfold cwithin.dec at h
 obtain ⟨a0,c0,h0,k0⟩:= popS_some (S:=S) (t:=131) h
 obtain ⟨rfl,rfl⟩:= popE_some (S:=S) h0
 exact (k0 _ (.refl _))
def cwithin.nf (all:List ConnectSpan) (v:Bool): Prop:=(List.length all≤(9223372036854775807:Nat))→(evCode (mkCx Tryz.prog S tab_cUpd 0) (evFun (mkCx Tryz.prog S tab_cUpd 0) 3) (.loop (loopB Tryz.prog 143 [true,false,true,false])) ({lo:=0,slots:=[(7, .v (.int .i64 (0))),(6, .v (.int .i64 ((↑(List.length all): Int)))),(5, .sl 131 (all:List (El 131)) false),(2, .v (.bool (false))),(0, .sl 131 (all:List (El 131)) false)],n:=24,objs:=[]}) (loopK (mkCx Tryz.prog S tab_cUpd 0) 3 143 [true,false,true,false] (fun r' H'=>Gives r' H' (cwithin.res v) (cwithin.news v))))
theorem cwithin.nf_ok (all:List ConnectSpan) (v:Bool): evFun (mkCx Tryz.prog S tab_cUpd 0) 4 143 [.sl 131 (all:List (El 131)) false] [] (fun r' H'=>Gives r' H' (cwithin.res v) (cwithin.news v))= cwithin.nf all v:=by kernel_rfl
theorem cwithin.key (all:List ConnectSpan) (v:Bool) (hv:v=cwithin all): cwithin.nf all v:=by
 unfold cwithin at hv
 unfold cwithin.nf
 intro hlen
 exact cwithin.lp all v _ _ hv (by unfold cwithin.rng;(try clear hv);(try clear q1 q2);(try clear hk);(first | omega | (simp only [List.length_nil];omega)| (simp;omega))) _ (by kernel_rfl) (by kernel_rfl)
def cwithin.ct:Ct El:=ctOf cwithin.dec (fun _=>[]) (fun x=>cwithin.res (cwithin x)) (fun x=>cwithin.news (cwithin x))
theorem cwithin.ok:CtOk (mkCx Tryz.prog S [] 0) 143 cwithin.ct:=ct_mk (C:=(mkCx Tryz.prog S tab_cUpd 0)) (mkCx_ok sigOk mixed tab_cUpd_ok 0) cwithin.dec_ok (fun x=>rfl) 4 (fun x _=>(cwithin.nf_ok x _).mpr (cwithin.key x _ rfl))
def tab_cwithin:List (FuncId×Ct El):= (143,cwithin.ct):: tab_cUpd
theorem tab_cwithin_ok:TabOk Tryz.prog S tab_cwithin:=⟨cwithin.ok,by kernel_rfl,tab_cUpd_ok⟩
def ones1 (x:Int): Int:=IntKind.wrap IntKind.u64 (bandK IntKind.u64 (shrK IntKind.u64 x (1:Int)) (6148914691236517205:Int)+ bandK IntKind.u64 x (6148914691236517205:Int))
def ones2 (x:Int): Int:=IntKind.wrap IntKind.u64 (bandK IntKind.u64 (shrK IntKind.u64 x (2:Int)) (3689348814741910323:Int)+ bandK IntKind.u64 x (3689348814741910323:Int))
def ones3 (x:Int): Int:=bandK IntKind.u64 (IntKind.wrap IntKind.u64 (shrK IntKind.u64 x (4:Int)+ x)) (1085102592571150095:Int)
def ones4 (k x:Int): Int:=IntKind.wrap IntKind.u64 (x+shrK IntKind.u64 x k)
def ones (x:Int): Int:=bandK IntKind.i64 (IntKind.wrap IntKind.i64 (ones4 32 (ones4 16 (ones4 8 (ones3 (ones2 (ones1 x))))))) (127:Int)
def ones.dec (cs:List (AV El)): Option Int:=popI .u64 cs fun a0 c0=>popE c0 a0
def ones.enc (x:Int): List (AV El):= [.v (.int .u64 x)]
theorem ones.dec_ok : ∀cs x,ones.dec cs=some x→Imp (S:=S) cs (ones.enc x):= by
 intro cs x h
 unfold ones.dec at h
 obtain ⟨a0,c0,rfl,h0⟩:= popI_some (S:=S) h
 obtain ⟨rfl,rfl⟩:= popE_some (S:=S) h0
 exact (.cons (.refl _))
def ones.ct:Ct El:=ctOf ones.dec (fun _=>[]) (fun x => .v (.int .i64 (ones x))) (fun _=>[])
theorem ones.nf_ok (x:Int) (K:AV El→List (AObj El)→Prop): evFun (mkCx Tryz.prog S tab_cwithin 0) 3 146 [.v (.int .u64 x)] [] K=(Ob ((0:Int)≤1)∧Ob ((0:Int)≤2)∧Ob ((0:Int)≤4)∧Ob ((0:Int)≤8)∧Ob ((0:Int)≤16)∧Ob ((0:Int)≤32)∧K (.v (.int .i64 (ones x))) []):= by kernel_rfl
theorem ones.ok:CtOk (mkCx Tryz.prog S [] 0) 146 ones.ct:=ct_mk (C:=(mkCx Tryz.prog S tab_cwithin 0)) (mkCx_ok sigOk mixed tab_cwithin_ok 0) ones.dec_ok (fun x=>rfl) 3 (fun x _=>(ones.nf_ok x _).mpr ⟨⟨by decide⟩,⟨by decide⟩,⟨by decide⟩,⟨by decide⟩,⟨by decide⟩,⟨by decide⟩,And.intro (by kernel_rfl) (by kernel_rfl)⟩)
def tab_ones:List (FuncId×Ct El):= (146,ones.ct):: tab_cwithin
theorem tab_ones_ok:TabOk Tryz.prog S tab_ones:=⟨ones.ok,by kernel_rfl,tab_cwithin_ok⟩
def cCheckUpdate.res (r:Int): AV El:=.v (.int .i64 (r))
def cCheckUpdate.news (r:Int): List (AObj El):= []
def cCheckUpdate.L (e v:Int): Prop:=cCheckUpdate.res e=cCheckUpdate.res v∧cCheckUpdate.news e=cCheckUpdate.news v
def cCheckUpdate (u:Update): Int:=cond (!cwithin [{n:=u.WinSize,low:=1,high:=8:ConnectSpan},{n:=u.WinOffset,low:=0,high:=3200:ConnectSpan},{n:=u.Interval,low:=6,high:=3200:ConnectSpan},{n:=u.Latency,low:=0,high:=499:ConnectSpan},{n:=u.Timeout,low:=10,high:=3200:ConnectSpan}]) (5) (cond (bif bif decide (u.Interval≤u.WinSize) then true else decide (u.Interval < u.WinOffset) then true else decide (IntKind.wrap IntKind.i64 (u.Timeout*10000)≤IntKind.wrap IntKind.i64 (IntKind.wrap IntKind.i64 (IntKind.wrap IntKind.i64 (2*IntKind.wrap IntKind.i64 (u.Latency+1))* u.Interval)* 1250))) (11) (0))
def cCheckUpdate.dec (cs:List (AV El)): Option (Update):= popA Update.dec cs fun a0 c0=>popE c0 a0
def cCheckUpdate.enc (x:Update): List (AV El):= [Update.av x]
theorem cCheckUpdate.dec_ok : ∀cs x,cCheckUpdate.dec cs=some x→Imp (S:=S) cs (cCheckUpdate.enc x):= by
 intro cs x h
 unfold cCheckUpdate.dec at h
 obtain ⟨a0,c0,h0,k0⟩:= popA_some (S:=S) Update.dec_ok h
 obtain ⟨rfl,rfl⟩:= popE_some (S:=S) h0
 exact (k0 _ (.refl _))
def cCheckUpdate.nf (u:Update) (v:Int): Prop:=cond (!cwithin [{n:=u.WinSize,low:=1,high:=8:ConnectSpan},{n:=u.WinOffset,low:=0,high:=3200:ConnectSpan},{n:=u.Interval,low:=6,high:=3200:ConnectSpan},{n:=u.Latency,low:=0,high:=499:ConnectSpan},{n:=u.Timeout,low:=10,high:=3200:ConnectSpan}]) (cCheckUpdate.L (5) v) (Ob (o3 (!decide (u.Interval≤u.WinSize)))∧(Ob (o3 (!decide (u.Interval≤u.WinSize)))∧(Ob (o3 (!decide (u.Interval≤u.WinSize)))∧(Ob (o3 (!decide (u.Interval≤u.WinSize)))∧(Ob (on (decide (u.Interval≤u.WinSize)))∧(Ob (o3 (!bif decide (u.Interval≤u.WinSize) then true else decide (u.Interval < u.WinOffset)))∧(Ob (o3 (!bif decide (u.Interval≤u.WinSize) then true else decide (u.Interval < u.WinOffset)))∧(Ob (o3 (!bif decide (u.Interval≤u.WinSize) then true else decide (u.Interval < u.WinOffset)))∧(Ob (o3 (!bif decide (u.Interval≤u.WinSize) then true else decide (u.Interval < u.WinOffset)))∧(Ob (o3 (!bif decide (u.Interval≤u.WinSize) then true else decide (u.Interval < u.WinOffset)))∧(Ob (o3 (!bif decide (u.Interval≤u.WinSize) then true else decide (u.Interval < u.WinOffset)))∧(Ob (o3 (!bif decide (u.Interval≤u.WinSize) then true else decide (u.Interval < u.WinOffset)))∧(Ob (o3 (!bif decide (u.Interval≤u.WinSize) then true else decide (u.Interval < u.WinOffset)))∧(Ob (o3 (!bif decide (u.Interval≤u.WinSize) then true else decide (u.Interval < u.WinOffset)))∧(Ob (o3 (!bif decide (u.Interval≤u.WinSize) then true else decide (u.Interval < u.WinOffset)))∧(Ob (o3 (!bif decide (u.Interval≤u.WinSize) then true else decide (u.Interval < u.WinOffset)))∧(Ob (on (bif decide (u.Interval≤u.WinSize) then true else decide (u.Interval < u.WinOffset)))∧(cond (bif bif decide (u.Interval≤u.WinSize) then true else decide (u.Interval < u.WinOffset) then true else decide (IntKind.wrap IntKind.i64 (u.Timeout*10000)≤IntKind.wrap IntKind.i64 (IntKind.wrap IntKind.i64 (IntKind.wrap IntKind.i64 (2*IntKind.wrap IntKind.i64 (u.Latency+1))* u.Interval)* 1250))) (cCheckUpdate.L (11) v) (cCheckUpdate.L (0) v)))))))))))))))))))
theorem cCheckUpdate.nf_ok (u:Update) (v:Int): evFun (mkCx Tryz.prog S tab_ones 0) 4 101 [Update.av u] [] (fun r' H'=>Gives r' H' (cCheckUpdate.res v) (cCheckUpdate.news v))= cCheckUpdate.nf u v:=by kernel_rfl
theorem cCheckUpdate.key (u:Update) (v:Int) (hv:v=cCheckUpdate u): cCheckUpdate.nf u v:=by
 unfold cCheckUpdate at hv
 unfold cCheckUpdate.nf
 revert hv;refine by_cond2 (fun hb hv=>?_) (fun hb hv=>?_)
 ·subst hv;exact ⟨rfl,rfl⟩
 ·refine ⟨⟨o3_ok _⟩, ?_⟩
  iterate 3 refine ⟨⟨o3_ok _⟩, ?_⟩
  refine ⟨⟨on_ok _⟩, ?_⟩
  iterate 11 refine ⟨⟨o3_ok _⟩, ?_⟩
  refine ⟨⟨on_ok _⟩, ?_⟩
  revert hv;refine by_cond2 (fun hb hv=>?_) (fun hb hv=>?_)
  ·subst hv;exact ⟨rfl,rfl⟩
  ·subst hv;exact ⟨rfl,rfl⟩
def cCheckUpdate.ct:Ct El:=ctOf cCheckUpdate.dec (fun _=>[]) (fun x=>cCheckUpdate.res (cCheckUpdate x)) (fun x=>cCheckUpdate.news (cCheckUpdate x))
theorem cCheckUpdate.ok:CtOk (mkCx Tryz.prog S [] 0) 101 cCheckUpdate.ct:=ct_mk (C:=(mkCx Tryz.prog S tab_ones 0)) (mkCx_ok sigOk mixed tab_ones_ok 0) cCheckUpdate.dec_ok (fun x=>rfl) 4 (fun x _=>(cCheckUpdate.nf_ok x _).mpr (cCheckUpdate.key x _ rfl))
def tab_cCheckUpdate:List (FuncId×Ct El):= (101,cCheckUpdate.ct):: tab_ones
theorem tab_cCheckUpdate_ok:TabOk Tryz.prog S tab_cCheckUpdate:=⟨cCheckUpdate.ok,by kernel_rfl,tab_ones_ok⟩
def kOnes.res (r:Int): AV El:=.v (.int .i64 (r))
def kOnes.news (r:Int): List (AObj El):= []
def kOnes.L (e v:Int): Prop:=kOnes.res e=kOnes.res v∧kOnes.news e=kOnes.news v
def kOnes (m:Int): Int:=ones (bandK IntKind.u64 m (137438953471:Int))
def kOnes.dec (cs:List (AV El)): Option (Int):= popI .u64 cs fun a0 c0=>popE c0 a0
def kOnes.enc (x:Int): List (AV El):= [.v (.int .u64 x)]
theorem kOnes.dec_ok : ∀cs x,kOnes.dec cs=some x→Imp (S:=S) cs (kOnes.enc x):= by
 intro cs x h
 unfold kOnes.dec at h
 obtain ⟨a0,c0,rfl,h0⟩:= popI_some (S:=S) h
 obtain ⟨rfl,rfl⟩:= popE_some (S:=S) h0
 exact (.cons (.refl _))
def kOnes.nf (m:Int) (v:Int): Prop:=kOnes.L (ones (bandK IntKind.u64 m (137438953471:Int))) v
theorem kOnes.nf_ok (m:Int) (v:Int): evFun (mkCx Tryz.prog S tab_ones 0) 4 144 [.v (.int .u64 m)] [] (fun r' H'=>Gives r' H' (kOnes.res v) (kOnes.news v))= kOnes.nf m v:=by kernel_rfl
theorem kOnes.key (m:Int) (v:Int) (hv:v=kOnes m): kOnes.nf m v:=by
 unfold kOnes at hv
 unfold kOnes.nf
 subst hv;exact ⟨rfl,rfl⟩
def kOnes.ct:Ct El:=ctOf kOnes.dec (fun _=>[]) (fun x=>kOnes.res (kOnes x)) (fun x=>kOnes.news (kOnes x))
theorem kOnes.ok:CtOk (mkCx Tryz.prog S [] 0) 144 kOnes.ct:=ct_mk (C:=(mkCx Tryz.prog S tab_ones 0)) (mkCx_ok sigOk mixed tab_ones_ok 0) kOnes.dec_ok (fun x=>rfl) 4 (fun x _=>(kOnes.nf_ok x _).mpr (kOnes.key x _ rfl))
def tab_kOnes:List (FuncId×Ct El):= (144,kOnes.ct):: tab_cCheckUpdate
theorem tab_kOnes_ok:TabOk Tryz.prog S tab_kOnes:=⟨kOnes.ok,by kernel_rfl,tab_cCheckUpdate_ok⟩
def kCheck.res (r:Int): AV El:=.v (.int .i64 (r))
def kCheck.news (r:Int): List (AObj El):= []
def kCheck.L (e v:Int): Prop:=kCheck.res e=kCheck.res v∧kCheck.news e=kCheck.news v
def kCheck (m:Int): Int:=cond (bclrK IntKind.u64 m (137438953471:Int) != (0:Int)) ((5:Int)) (cond (decide (kOnes m < (2:Int))) ((1:Int)) ((0:Int)))
def kCheck.dec (cs:List (AV El)): Option (Int):= popI .u64 cs fun a0 c0=>popE c0 a0
def kCheck.enc (x:Int): List (AV El):= [.v (.int .u64 x)]
theorem kCheck.dec_ok : ∀cs x,kCheck.dec cs=some x→Imp (S:=S) cs (kCheck.enc x):= by
 intro cs x h
 unfold kCheck.dec at h
 obtain ⟨a0,c0,rfl,h0⟩:= popI_some (S:=S) h
 obtain ⟨rfl,rfl⟩:= popE_some (S:=S) h0
 exact (.cons (.refl _))
def kCheck.nf (m:Int) (v:Int): Prop:=cond (bclrK IntKind.u64 m (137438953471:Int) != (0:Int)) (kCheck.L ((5:Int)) v) (cond (decide (kOnes m < (2:Int))) (kCheck.L ((1:Int)) v) (kCheck.L ((0:Int)) v))
theorem kCheck.nf_ok (m:Int) (v:Int): evFun (mkCx Tryz.prog S tab_kOnes 0) 4 105 [.v (.int .u64 m)] [] (fun r' H'=>Gives r' H' (kCheck.res v) (kCheck.news v))= kCheck.nf m v:=by kernel_rfl
theorem kCheck.key (m:Int) (v:Int) (hv:v=kCheck m): kCheck.nf m v:=by
 unfold kCheck at hv
 unfold kCheck.nf
 revert hv;refine by_cond2 (fun hb hv=>?_) (fun hb hv=>?_)
 ·subst hv;exact ⟨rfl,rfl⟩
 ·revert hv;refine by_cond2 (fun hb hv=>?_) (fun hb hv=>?_)
  ·subst hv;exact ⟨rfl,rfl⟩
  ·subst hv;exact ⟨rfl,rfl⟩
def kCheck.ct:Ct El:=ctOf kCheck.dec (fun _=>[]) (fun x=>kCheck.res (kCheck x)) (fun x=>kCheck.news (kCheck x))
theorem kCheck.ok:CtOk (mkCx Tryz.prog S [] 0) 105 kCheck.ct:=ct_mk (C:=(mkCx Tryz.prog S tab_kOnes 0)) (mkCx_ok sigOk mixed tab_kOnes_ok 0) kCheck.dec_ok (fun x=>rfl) 4 (fun x _=>(kCheck.nf_ok x _).mpr (kCheck.key x _ rfl))
def tab_kCheck:List (FuncId×Ct El):= (105,kCheck.ct):: tab_kOnes
theorem tab_kCheck_ok:TabOk Tryz.prog S tab_kCheck:=⟨kCheck.ok,by kernel_rfl,tab_kOnes_ok⟩
end Go.Aw.W
