/- Contracts of the seat (printed by ct.py). -/
import Derived.Test.YtppceadhdckpmaaDoorXW41
set_option linter.unusedVariables false
set_option linter.unusedSimpArgs false
set_option maxRecDepth 20000
set_option maxHeartbeats 1000000
namespace Go.Aw.W
open Go Go.Aw Go.Proofs
attribute [local irreducible] evCode evFun evOps evDs evOne ctxK loopK loopB subC bodyC headS okH roundK
theorem cloneB_eq (l:List Int): cloneB l=l:=by unfold cloneB;simp
theorem cloneA_eq (l:List Address): cloneA l=l:=by unfold cloneA;simp
theorem cloneI_eq (l:List Identity): cloneI l=l:=by unfold cloneI;simp
theorem advPDU_eq (p:AdvParams): advPDU p=⟨p.Kind,p.Own,p.Target,p.Data,ConnParams.zero⟩:= by unfold advPDU;rw [cloneB_eq]
theorem advScan_eq (p:AdvParams): advScan p=⟨4,p.Own,Address.zero,p.Scan,ConnParams.zero⟩:= by unfold advScan;rw [cloneB_eq]
theorem advOwn_eq (a:Advertiser): advOwn a=a:=by unfold advOwn;rw [cloneB_eq,cloneB_eq,cloneA_eq,cloneI_eq]
def advCheck.res (r:Int): AV El:=.v (.int .i64 (r))
def advCheck.news (r:Int): List (AObj El):= []
def advCheck.L (e v:Int): Prop:=advCheck.res e=advCheck.res v∧advCheck.news e=advCheck.news v
def advCheck (p:AdvParams): Int:=cond (p.Kind==(0:Int)) (cond (bif decide (p.Interval < (32:Int)) then true else decide ((16384:Int) < p.Interval)) ((5:Int)) (cond (pCheck (advPDU p) != (0:Int)) (pCheck (advPDU p)) (cond (aScan p.Kind) (cond (pCheck (advScan p) != (0:Int)) (pCheck (advScan p)) (cond (bif decide (p.Policy < (0:Int)) then true else decide ((3:Int) < p.Policy)) ((5:Int)) (cond (bif decide ((64:Int) < (↑(List.length p.Accept): Int)) then true else decide ((64:Int) < (↑(List.length p.Identities): Int))) ((4:Int)) ((0:Int))))) (cond (decide ((0:Int) < (↑(List.length p.Scan): Int))) ((1:Int)) (cond (bif decide (p.Policy < (0:Int)) then true else decide ((3:Int) < p.Policy)) ((5:Int)) (cond (bif decide ((64:Int) < (↑(List.length p.Accept): Int)) then true else decide ((64:Int) < (↑(List.length p.Identities): Int))) ((4:Int)) ((0:Int)))))))) (cond (p.Kind==(1:Int)) (cond (bif decide (p.Interval < (32:Int)) then true else decide ((16384:Int) < p.Interval)) ((5:Int)) (cond (pCheck (advPDU p) != (0:Int)) (pCheck (advPDU p)) (cond (aScan p.Kind) (cond (pCheck (advScan p) != (0:Int)) (pCheck (advScan p)) (cond (bif decide (p.Policy < (0:Int)) then true else decide ((3:Int) < p.Policy)) ((5:Int)) (cond (bif decide ((64:Int) < (↑(List.length p.Accept): Int)) then true else decide ((64:Int) < (↑(List.length p.Identities): Int))) ((4:Int)) ((0:Int))))) (cond (decide ((0:Int) < (↑(List.length p.Scan): Int))) ((1:Int)) (cond (bif decide (p.Policy < (0:Int)) then true else decide ((3:Int) < p.Policy)) ((5:Int)) (cond (bif decide ((64:Int) < (↑(List.length p.Accept): Int)) then true else decide ((64:Int) < (↑(List.length p.Identities): Int))) ((4:Int)) ((0:Int)))))))) (cond (p.Kind==(2:Int)) (cond (bif decide (p.Interval < (32:Int)) then true else decide ((16384:Int) < p.Interval)) ((5:Int)) (cond (pCheck (advPDU p) != (0:Int)) (pCheck (advPDU p)) (cond (aScan p.Kind) (cond (pCheck (advScan p) != (0:Int)) (pCheck (advScan p)) (cond (bif decide (p.Policy < (0:Int)) then true else decide ((3:Int) < p.Policy)) ((5:Int)) (cond (bif decide ((64:Int) < (↑(List.length p.Accept): Int)) then true else decide ((64:Int) < (↑(List.length p.Identities): Int))) ((4:Int)) ((0:Int))))) (cond (decide ((0:Int) < (↑(List.length p.Scan): Int))) ((1:Int)) (cond (bif decide (p.Policy < (0:Int)) then true else decide ((3:Int) < p.Policy)) ((5:Int)) (cond (bif decide ((64:Int) < (↑(List.length p.Accept): Int)) then true else decide ((64:Int) < (↑(List.length p.Identities): Int))) ((4:Int)) ((0:Int)))))))) (cond (p.Kind==(6:Int)) (cond (bif decide (p.Interval < (32:Int)) then true else decide ((16384:Int) < p.Interval)) ((5:Int)) (cond (pCheck (advPDU p) != (0:Int)) (pCheck (advPDU p)) (cond (aScan p.Kind) (cond (pCheck (advScan p) != (0:Int)) (pCheck (advScan p)) (cond (bif decide (p.Policy < (0:Int)) then true else decide ((3:Int) < p.Policy)) ((5:Int)) (cond (bif decide ((64:Int) < (↑(List.length p.Accept): Int)) then true else decide ((64:Int) < (↑(List.length p.Identities): Int))) ((4:Int)) ((0:Int))))) (cond (decide ((0:Int) < (↑(List.length p.Scan): Int))) ((1:Int)) (cond (bif decide (p.Policy < (0:Int)) then true else decide ((3:Int) < p.Policy)) ((5:Int)) (cond (bif decide ((64:Int) < (↑(List.length p.Accept): Int)) then true else decide ((64:Int) < (↑(List.length p.Identities): Int))) ((4:Int)) ((0:Int)))))))) ((12:Int)))))
def advCheck.dec (cs:List (AV El)): Option (AdvParams):= popA AdvParams.dec cs fun a0 c0=>popE c0 a0
def advCheck.enc (x:AdvParams): List (AV El):= [AdvParams.av x]
theorem advCheck.dec_ok : ∀cs x,advCheck.dec cs=some x→Imp (S:=S) cs (advCheck.enc x):= by
 intro cs x h
 unfold advCheck.dec at h
 obtain ⟨a0,c0,h0,k0⟩:= popA_some (S:=S) AdvParams.dec_ok h
 obtain ⟨rfl,rfl⟩:= popE_some (S:=S) h0
 exact (k0 _ (.refl _))
def advCheck.nf (p:AdvParams) (v:Int): Prop:=cond (p.Kind==(0:Int)) (Ob (o3 (!decide (p.Interval < (32:Int))))∧(Ob (o3 (!decide (p.Interval < (32:Int))))∧(Ob (on (decide (p.Interval < (32:Int))))∧(cond (bif decide (p.Interval < (32:Int)) then true else decide ((16384:Int) < p.Interval)) (advCheck.L ((5:Int)) v) (Ob (List.length p.Data≤(140737488355328:Nat)∧List.length p.Scan≤(140737488355328:Nat)∧List.length p.Accept≤(4611686018427:Nat)∧List.length p.Identities≤(4611686018427:Nat))∧(cond (pCheck (advPDU p) != (0:Int)) (advCheck.L (pCheck (advPDU p)) v) (cond (aScan p.Kind) (Ob (List.length p.Data≤(140737488355328:Nat)∧List.length p.Scan≤(140737488355328:Nat)∧List.length p.Accept≤(4611686018427:Nat)∧List.length p.Identities≤(4611686018427:Nat))∧(cond (pCheck (advScan p) != (0:Int)) (advCheck.L (pCheck (advScan p)) v) (Ob (o3 (!decide (p.Policy < (0:Int))))∧(Ob (o3 (!decide (p.Policy < (0:Int))))∧(Ob (on (decide (p.Policy < (0:Int))))∧(cond (bif decide (p.Policy < (0:Int)) then true else decide ((3:Int) < p.Policy)) (advCheck.L ((5:Int)) v) ((List.length p.Accept≤(9223372036854775807:Nat))→(Ob (o3 (!decide ((64:Int) < (↑(List.length p.Accept): Int))))∧(Ob (o3 (!decide ((64:Int) < (↑(List.length p.Accept): Int))))∧(Ob (o3 (!decide ((64:Int) < (↑(List.length p.Accept): Int))))∧(Ob (on (decide ((64:Int) < (↑(List.length p.Accept): Int))))∧(cond (bif decide ((64:Int) < (↑(List.length p.Accept): Int)) then true else decide ((64:Int) < (↑(List.length p.Identities): Int))) (advCheck.L ((4:Int)) v) (advCheck.L ((0:Int)) v))))))))))))) ((List.length p.Scan≤(9223372036854775807:Nat))→(cond (decide ((0:Int) < (↑(List.length p.Scan): Int))) (advCheck.L ((1:Int)) v) (Ob (o3 (!decide (p.Policy < (0:Int))))∧(Ob (o3 (!decide (p.Policy < (0:Int))))∧(Ob (on (decide (p.Policy < (0:Int))))∧(cond (bif decide (p.Policy < (0:Int)) then true else decide ((3:Int) < p.Policy)) (advCheck.L ((5:Int)) v) ((List.length p.Accept≤(9223372036854775807:Nat))→(Ob (o3 (!decide ((64:Int) < (↑(List.length p.Accept): Int))))∧(Ob (o3 (!decide ((64:Int) < (↑(List.length p.Accept): Int))))∧(Ob (o3 (!decide ((64:Int) < (↑(List.length p.Accept): Int))))∧(Ob (on (decide ((64:Int) < (↑(List.length p.Accept): Int))))∧(cond (bif decide ((64:Int) < (↑(List.length p.Accept): Int)) then true else decide ((64:Int) < (↑(List.length p.Identities): Int))) (advCheck.L ((4:Int)) v) (advCheck.L ((0:Int)) v)))))))))))))))))))) (cond (p.Kind==(1:Int)) (Ob (o3 (!decide (p.Interval < (32:Int))))∧(Ob (o3 (!decide (p.Interval < (32:Int))))∧(Ob (on (decide (p.Interval < (32:Int))))∧(cond (bif decide (p.Interval < (32:Int)) then true else decide ((16384:Int) < p.Interval)) (advCheck.L ((5:Int)) v) (Ob (List.length p.Data≤(140737488355328:Nat)∧List.length p.Scan≤(140737488355328:Nat)∧List.length p.Accept≤(4611686018427:Nat)∧List.length p.Identities≤(4611686018427:Nat))∧(cond (pCheck (advPDU p) != (0:Int)) (advCheck.L (pCheck (advPDU p)) v) (cond (aScan p.Kind) (Ob (List.length p.Data≤(140737488355328:Nat)∧List.length p.Scan≤(140737488355328:Nat)∧List.length p.Accept≤(4611686018427:Nat)∧List.length p.Identities≤(4611686018427:Nat))∧(cond (pCheck (advScan p) != (0:Int)) (advCheck.L (pCheck (advScan p)) v) (Ob (o3 (!decide (p.Policy < (0:Int))))∧(Ob (o3 (!decide (p.Policy < (0:Int))))∧(Ob (on (decide (p.Policy < (0:Int))))∧(cond (bif decide (p.Policy < (0:Int)) then true else decide ((3:Int) < p.Policy)) (advCheck.L ((5:Int)) v) ((List.length p.Accept≤(9223372036854775807:Nat))→(Ob (o3 (!decide ((64:Int) < (↑(List.length p.Accept): Int))))∧(Ob (o3 (!decide ((64:Int) < (↑(List.length p.Accept): Int))))∧(Ob (o3 (!decide ((64:Int) < (↑(List.length p.Accept): Int))))∧(Ob (on (decide ((64:Int) < (↑(List.length p.Accept): Int))))∧(cond (bif decide ((64:Int) < (↑(List.length p.Accept): Int)) then true else decide ((64:Int) < (↑(List.length p.Identities): Int))) (advCheck.L ((4:Int)) v) (advCheck.L ((0:Int)) v))))))))))))) ((List.length p.Scan≤(9223372036854775807:Nat))→(cond (decide ((0:Int) < (↑(List.length p.Scan): Int))) (advCheck.L ((1:Int)) v) (Ob (o3 (!decide (p.Policy < (0:Int))))∧(Ob (o3 (!decide (p.Policy < (0:Int))))∧(Ob (on (decide (p.Policy < (0:Int))))∧(cond (bif decide (p.Policy < (0:Int)) then true else decide ((3:Int) < p.Policy)) (advCheck.L ((5:Int)) v) ((List.length p.Accept≤(9223372036854775807:Nat))→(Ob (o3 (!decide ((64:Int) < (↑(List.length p.Accept): Int))))∧(Ob (o3 (!decide ((64:Int) < (↑(List.length p.Accept): Int))))∧(Ob (o3 (!decide ((64:Int) < (↑(List.length p.Accept): Int))))∧(Ob (on (decide ((64:Int) < (↑(List.length p.Accept): Int))))∧(cond (bif decide ((64:Int) < (↑(List.length p.Accept): Int)) then true else decide ((64:Int) < (↑(List.length p.Identities): Int))) (advCheck.L ((4:Int)) v) (advCheck.L ((0:Int)) v)))))))))))))))))))) (cond (p.Kind==(2:Int)) (Ob (o3 (!decide (p.Interval < (32:Int))))∧(Ob (o3 (!decide (p.Interval < (32:Int))))∧(Ob (on (decide (p.Interval < (32:Int))))∧(cond (bif decide (p.Interval < (32:Int)) then true else decide ((16384:Int) < p.Interval)) (advCheck.L ((5:Int)) v) (Ob (List.length p.Data≤(140737488355328:Nat)∧List.length p.Scan≤(140737488355328:Nat)∧List.length p.Accept≤(4611686018427:Nat)∧List.length p.Identities≤(4611686018427:Nat))∧(cond (pCheck (advPDU p) != (0:Int)) (advCheck.L (pCheck (advPDU p)) v) (cond (aScan p.Kind) (Ob (List.length p.Data≤(140737488355328:Nat)∧List.length p.Scan≤(140737488355328:Nat)∧List.length p.Accept≤(4611686018427:Nat)∧List.length p.Identities≤(4611686018427:Nat))∧(cond (pCheck (advScan p) != (0:Int)) (advCheck.L (pCheck (advScan p)) v) (Ob (o3 (!decide (p.Policy < (0:Int))))∧(Ob (o3 (!decide (p.Policy < (0:Int))))∧(Ob (on (decide (p.Policy < (0:Int))))∧(cond (bif decide (p.Policy < (0:Int)) then true else decide ((3:Int) < p.Policy)) (advCheck.L ((5:Int)) v) ((List.length p.Accept≤(9223372036854775807:Nat))→(Ob (o3 (!decide ((64:Int) < (↑(List.length p.Accept): Int))))∧(Ob (o3 (!decide ((64:Int) < (↑(List.length p.Accept): Int))))∧(Ob (o3 (!decide ((64:Int) < (↑(List.length p.Accept): Int))))∧(Ob (on (decide ((64:Int) < (↑(List.length p.Accept): Int))))∧(cond (bif decide ((64:Int) < (↑(List.length p.Accept): Int)) then true else decide ((64:Int) < (↑(List.length p.Identities): Int))) (advCheck.L ((4:Int)) v) (advCheck.L ((0:Int)) v))))))))))))) ((List.length p.Scan≤(9223372036854775807:Nat))→(cond (decide ((0:Int) < (↑(List.length p.Scan): Int))) (advCheck.L ((1:Int)) v) (Ob (o3 (!decide (p.Policy < (0:Int))))∧(Ob (o3 (!decide (p.Policy < (0:Int))))∧(Ob (on (decide (p.Policy < (0:Int))))∧(cond (bif decide (p.Policy < (0:Int)) then true else decide ((3:Int) < p.Policy)) (advCheck.L ((5:Int)) v) ((List.length p.Accept≤(9223372036854775807:Nat))→(Ob (o3 (!decide ((64:Int) < (↑(List.length p.Accept): Int))))∧(Ob (o3 (!decide ((64:Int) < (↑(List.length p.Accept): Int))))∧(Ob (o3 (!decide ((64:Int) < (↑(List.length p.Accept): Int))))∧(Ob (on (decide ((64:Int) < (↑(List.length p.Accept): Int))))∧(cond (bif decide ((64:Int) < (↑(List.length p.Accept): Int)) then true else decide ((64:Int) < (↑(List.length p.Identities): Int))) (advCheck.L ((4:Int)) v) (advCheck.L ((0:Int)) v)))))))))))))))))))) (cond (p.Kind==(6:Int)) (Ob (o3 (!decide (p.Interval < (32:Int))))∧(Ob (o3 (!decide (p.Interval < (32:Int))))∧(Ob (on (decide (p.Interval < (32:Int))))∧(cond (bif decide (p.Interval < (32:Int)) then true else decide ((16384:Int) < p.Interval)) (advCheck.L ((5:Int)) v) (Ob (List.length p.Data≤(140737488355328:Nat)∧List.length p.Scan≤(140737488355328:Nat)∧List.length p.Accept≤(4611686018427:Nat)∧List.length p.Identities≤(4611686018427:Nat))∧(cond (pCheck (advPDU p) != (0:Int)) (advCheck.L (pCheck (advPDU p)) v) (cond (aScan p.Kind) (Ob (List.length p.Data≤(140737488355328:Nat)∧List.length p.Scan≤(140737488355328:Nat)∧List.length p.Accept≤(4611686018427:Nat)∧List.length p.Identities≤(4611686018427:Nat))∧(cond (pCheck (advScan p) != (0:Int)) (advCheck.L (pCheck (advScan p)) v) (Ob (o3 (!decide (p.Policy < (0:Int))))∧(Ob (o3 (!decide (p.Policy < (0:Int))))∧(Ob (on (decide (p.Policy < (0:Int))))∧(cond (bif decide (p.Policy < (0:Int)) then true else decide ((3:Int) < p.Policy)) (advCheck.L ((5:Int)) v) ((List.length p.Accept≤(9223372036854775807:Nat))→(Ob (o3 (!decide ((64:Int) < (↑(List.length p.Accept): Int))))∧(Ob (o3 (!decide ((64:Int) < (↑(List.length p.Accept): Int))))∧(Ob (o3 (!decide ((64:Int) < (↑(List.length p.Accept): Int))))∧(Ob (on (decide ((64:Int) < (↑(List.length p.Accept): Int))))∧(cond (bif decide ((64:Int) < (↑(List.length p.Accept): Int)) then true else decide ((64:Int) < (↑(List.length p.Identities): Int))) (advCheck.L ((4:Int)) v) (advCheck.L ((0:Int)) v))))))))))))) ((List.length p.Scan≤(9223372036854775807:Nat))→(cond (decide ((0:Int) < (↑(List.length p.Scan): Int))) (advCheck.L ((1:Int)) v) (Ob (o3 (!decide (p.Policy < (0:Int))))∧(Ob (o3 (!decide (p.Policy < (0:Int))))∧(Ob (on (decide (p.Policy < (0:Int))))∧(cond (bif decide (p.Policy < (0:Int)) then true else decide ((3:Int) < p.Policy)) (advCheck.L ((5:Int)) v) ((List.length p.Accept≤(9223372036854775807:Nat))→(Ob (o3 (!decide ((64:Int) < (↑(List.length p.Accept): Int))))∧(Ob (o3 (!decide ((64:Int) < (↑(List.length p.Accept): Int))))∧(Ob (o3 (!decide ((64:Int) < (↑(List.length p.Accept): Int))))∧(Ob (on (decide ((64:Int) < (↑(List.length p.Accept): Int))))∧(cond (bif decide ((64:Int) < (↑(List.length p.Accept): Int)) then true else decide ((64:Int) < (↑(List.length p.Identities): Int))) (advCheck.L ((4:Int)) v) (advCheck.L ((0:Int)) v)))))))))))))))))))) (advCheck.L ((12:Int)) v))))
theorem advCheck.nf_ok (p:AdvParams) (v:Int): evFun (mkCxI Tryd.prog S tab_advDelay 0 false sum_fIdx) 4 49 [AdvParams.av p] [] (fun r' H'=>Gives r' H' (advCheck.res v) (advCheck.news v))= advCheck.nf p v:=by kernel_rfl
theorem advCheck.key (p:AdvParams) (hp:p.Data.length≤140737488355328∧p.Scan.length≤140737488355328∧p.Accept.length≤4611686018427∧p.Identities.length≤4611686018427) (v:Int) (hv:v=advCheck p): advCheck.nf p v:=by
 unfold advCheck at hv
 unfold advCheck.nf
 revert hv;refine by_cond2 (fun hb hv=>?_) (fun hb hv=>?_)
 iterate 2 refine ⟨⟨o3_ok _⟩, ?_⟩
 refine ⟨⟨on_ok _⟩, ?_⟩
 revert hv;refine by_cond2 (fun hb hv=>?_) (fun hb hv=>?_)
 subst hv;exact ⟨rfl,rfl⟩
 refine ⟨⟨?_⟩, ?_⟩;rotate_left
 revert hv;refine by_cond2 (fun hb hv=>?_) (fun hb hv=>?_)
 subst hv;exact ⟨rfl,rfl⟩
 revert hv;refine by_cond2 (fun hb hv=>?_) (fun hb hv=>?_)
 refine ⟨⟨?_⟩, ?_⟩;rotate_left
 revert hv;refine by_cond2 (fun hb hv=>?_) (fun hb hv=>?_)
 subst hv;exact ⟨rfl,rfl⟩
 iterate 2 refine ⟨⟨o3_ok _⟩, ?_⟩
 refine ⟨⟨on_ok _⟩, ?_⟩
 revert hv;refine by_cond2 (fun hb hv=>?_) (fun hb hv=>?_)
 subst hv;exact ⟨rfl,rfl⟩
 intro hlen
 iterate 3 refine ⟨⟨o3_ok _⟩, ?_⟩
 refine ⟨⟨on_ok _⟩, ?_⟩
 revert hv;refine by_cond2 (fun hb hv=>?_) (fun hb hv=>?_)
 subst hv;exact ⟨rfl,rfl⟩
 subst hv;exact ⟨rfl,rfl⟩
 intro hlen
 revert hv;refine by_cond2 (fun hb hv=>?_) (fun hb hv=>?_)
 subst hv;exact ⟨rfl,rfl⟩
 iterate 2 refine ⟨⟨o3_ok _⟩, ?_⟩
 refine ⟨⟨on_ok _⟩, ?_⟩
 revert hv;refine by_cond2 (fun hb hv=>?_) (fun hb hv=>?_)
 subst hv;exact ⟨rfl,rfl⟩
 intro hlen
 iterate 3 refine ⟨⟨o3_ok _⟩, ?_⟩
 refine ⟨⟨on_ok _⟩, ?_⟩
 revert hv;refine by_cond2 (fun hb hv=>?_) (fun hb hv=>?_)
 subst hv;exact ⟨rfl,rfl⟩
 subst hv;exact ⟨rfl,rfl⟩
 revert hv;refine by_cond2 (fun hb hv=>?_) (fun hb hv=>?_)
 iterate 2 refine ⟨⟨o3_ok _⟩, ?_⟩
 refine ⟨⟨on_ok _⟩, ?_⟩
 revert hv;refine by_cond2 (fun hb hv=>?_) (fun hb hv=>?_)
 subst hv;exact ⟨rfl,rfl⟩
 refine ⟨⟨?_⟩, ?_⟩;rotate_left
 revert hv;refine by_cond2 (fun hb hv=>?_) (fun hb hv=>?_)
 subst hv;exact ⟨rfl,rfl⟩
 revert hv;refine by_cond2 (fun hb hv=>?_) (fun hb hv=>?_)
 refine ⟨⟨?_⟩, ?_⟩;rotate_left
 revert hv;refine by_cond2 (fun hb hv=>?_) (fun hb hv=>?_)
 subst hv;exact ⟨rfl,rfl⟩
 iterate 2 refine ⟨⟨o3_ok _⟩, ?_⟩
 refine ⟨⟨on_ok _⟩, ?_⟩
 revert hv;refine by_cond2 (fun hb hv=>?_) (fun hb hv=>?_)
 subst hv;exact ⟨rfl,rfl⟩
 intro hlen
 iterate 3 refine ⟨⟨o3_ok _⟩, ?_⟩
 refine ⟨⟨on_ok _⟩, ?_⟩
 revert hv;refine by_cond2 (fun hb hv=>?_) (fun hb hv=>?_)
 subst hv;exact ⟨rfl,rfl⟩
 subst hv;exact ⟨rfl,rfl⟩
 intro hlen
 revert hv;refine by_cond2 (fun hb hv=>?_) (fun hb hv=>?_)
 subst hv;exact ⟨rfl,rfl⟩
 iterate 2 refine ⟨⟨o3_ok _⟩, ?_⟩
 refine ⟨⟨on_ok _⟩, ?_⟩
 revert hv;refine by_cond2 (fun hb hv=>?_) (fun hb hv=>?_)
 subst hv;exact ⟨rfl,rfl⟩
 intro hlen
 iterate 3 refine ⟨⟨o3_ok _⟩, ?_⟩
 refine ⟨⟨on_ok _⟩, ?_⟩
 revert hv;refine by_cond2 (fun hb hv=>?_) (fun hb hv=>?_)
 subst hv;exact ⟨rfl,rfl⟩
 subst hv;exact ⟨rfl,rfl⟩
 revert hv;refine by_cond2 (fun hb hv=>?_) (fun hb hv=>?_)
 iterate 2 refine ⟨⟨o3_ok _⟩, ?_⟩
 refine ⟨⟨on_ok _⟩, ?_⟩
 revert hv;refine by_cond2 (fun hb hv=>?_) (fun hb hv=>?_)
 subst hv;exact ⟨rfl,rfl⟩
 refine ⟨⟨?_⟩, ?_⟩;rotate_left
 revert hv;refine by_cond2 (fun hb hv=>?_) (fun hb hv=>?_)
 subst hv;exact ⟨rfl,rfl⟩
 revert hv;refine by_cond2 (fun hb hv=>?_) (fun hb hv=>?_)
 refine ⟨⟨?_⟩, ?_⟩;rotate_left
 revert hv;refine by_cond2 (fun hb hv=>?_) (fun hb hv=>?_)
 subst hv;exact ⟨rfl,rfl⟩
 iterate 2 refine ⟨⟨o3_ok _⟩, ?_⟩
 refine ⟨⟨on_ok _⟩, ?_⟩
 revert hv;refine by_cond2 (fun hb hv=>?_) (fun hb hv=>?_)
 subst hv;exact ⟨rfl,rfl⟩
 intro hlen
 iterate 3 refine ⟨⟨o3_ok _⟩, ?_⟩
 refine ⟨⟨on_ok _⟩, ?_⟩
 revert hv;refine by_cond2 (fun hb hv=>?_) (fun hb hv=>?_)
 subst hv;exact ⟨rfl,rfl⟩
 subst hv;exact ⟨rfl,rfl⟩
 intro hlen
 revert hv;refine by_cond2 (fun hb hv=>?_) (fun hb hv=>?_)
 subst hv;exact ⟨rfl,rfl⟩
 iterate 2 refine ⟨⟨o3_ok _⟩, ?_⟩
 refine ⟨⟨on_ok _⟩, ?_⟩
 revert hv;refine by_cond2 (fun hb hv=>?_) (fun hb hv=>?_)
 subst hv;exact ⟨rfl,rfl⟩
 intro hlen
 iterate 3 refine ⟨⟨o3_ok _⟩, ?_⟩
 refine ⟨⟨on_ok _⟩, ?_⟩
 revert hv;refine by_cond2 (fun hb hv=>?_) (fun hb hv=>?_)
 subst hv;exact ⟨rfl,rfl⟩
 subst hv;exact ⟨rfl,rfl⟩
 revert hv;refine by_cond2 (fun hb hv=>?_) (fun hb hv=>?_)
 iterate 2 refine ⟨⟨o3_ok _⟩, ?_⟩
 refine ⟨⟨on_ok _⟩, ?_⟩
 revert hv;refine by_cond2 (fun hb hv=>?_) (fun hb hv=>?_)
 subst hv;exact ⟨rfl,rfl⟩
 refine ⟨⟨?_⟩, ?_⟩;rotate_left
 revert hv;refine by_cond2 (fun hb hv=>?_) (fun hb hv=>?_)
 subst hv;exact ⟨rfl,rfl⟩
 revert hv;refine by_cond2 (fun hb hv=>?_) (fun hb hv=>?_)
 refine ⟨⟨?_⟩, ?_⟩;rotate_left
 revert hv;refine by_cond2 (fun hb hv=>?_) (fun hb hv=>?_)
 subst hv;exact ⟨rfl,rfl⟩
 iterate 2 refine ⟨⟨o3_ok _⟩, ?_⟩
 refine ⟨⟨on_ok _⟩, ?_⟩
 revert hv;refine by_cond2 (fun hb hv=>?_) (fun hb hv=>?_)
 subst hv;exact ⟨rfl,rfl⟩
 intro hlen
 iterate 3 refine ⟨⟨o3_ok _⟩, ?_⟩
 refine ⟨⟨on_ok _⟩, ?_⟩
 revert hv;refine by_cond2 (fun hb hv=>?_) (fun hb hv=>?_)
 subst hv;exact ⟨rfl,rfl⟩
 subst hv;exact ⟨rfl,rfl⟩
 intro hlen
 revert hv;refine by_cond2 (fun hb hv=>?_) (fun hb hv=>?_)
 subst hv;exact ⟨rfl,rfl⟩
 iterate 2 refine ⟨⟨o3_ok _⟩, ?_⟩
 refine ⟨⟨on_ok _⟩, ?_⟩
 revert hv;refine by_cond2 (fun hb hv=>?_) (fun hb hv=>?_)
 subst hv;exact ⟨rfl,rfl⟩
 intro hlen
 iterate 3 refine ⟨⟨o3_ok _⟩, ?_⟩
 refine ⟨⟨on_ok _⟩, ?_⟩
 revert hv;refine by_cond2 (fun hb hv=>?_) (fun hb hv=>?_)
 subst hv;exact ⟨rfl,rfl⟩
 subst hv;exact ⟨rfl,rfl⟩
 subst hv;exact ⟨rfl,rfl⟩
 all_goals ((try clear hv);(try clear q1 q2);(try clear hk);(first | omega | ((try simp only [decide_eq_true_eq,decide_eq_false_iff_not,Bool.not_eq_true,Bool.not_eq_false,Bool.and_eq_true,Bool.or_eq_true,Bool.not_not,cond_and,cond_or,List.length_append,List.length_cons,List.length_nil] at *);(first | done | ((first | omega | (intros;(try simp only [Bool.not_not,cond_and,cond_or,Bool.and_eq_true,decide_eq_true_eq] at *);(exact ⟨by decide,by simp⟩))| (intros;(try simp only [Bool.not_not,cond_and,cond_or,Bool.and_eq_true,decide_eq_true_eq] at *);(exact band_nn rfl _ _))| (intros;(try simp only [Bool.not_not,cond_and,cond_or,Bool.and_eq_true,decide_eq_true_eq] at *);(exact (wu64s _).2.1))| (intros;(try simp only [Bool.not_not,cond_and,cond_or,Bool.and_eq_true,decide_eq_true_eq] at *);(simp only [Bool.or_eq_false_iff,Bool.and_eq_false_iff,decide_eq_false_iff_not,decide_eq_true_eq,bne_iff_ne,beq_iff_eq,bne_eq_false_iff_eq,beq_eq_false_iff_ne,ne_eq,true_and] at *;omega))| (intros;(try simp only [Bool.not_not,cond_and,cond_or,Bool.and_eq_true,decide_eq_true_eq] at *);(simp only [List.length_drop,List.length_take,List.length_append,List.length_cons,List.length_nil] at *;omega))| (intros;omega)| (intros;simp only [Bool.not_not,cond_and,cond_or,Bool.and_eq_true,decide_eq_true_eq] at *;omega)| (intros;simp_all [Bool.not_not];done)))))))
def advCheck.ct:Ct El:=ctOf advCheck.dec (fun x=>[x.Data.length≤140737488355328∧x.Scan.length≤140737488355328∧x.Accept.length≤4611686018427∧x.Identities.length≤4611686018427]) (fun x=>advCheck.res (advCheck x)) (fun x=>advCheck.news (advCheck x))
theorem advCheck.ok:CtOk (mkCx Tryd.prog S [] 0) 49 advCheck.ct:=ct_mk (C:=(mkCxI Tryd.prog S tab_advDelay 0 false sum_fIdx)) (mkCxI_ok sigOk mixed tab_advDelay_ok 0 false sum_fIdx_ok) advCheck.dec_ok (fun x=>rfl) 4 (fun x hp=>(advCheck.nf_ok x _).mpr (advCheck.key x (hp _ (List.mem_singleton.2 rfl)) _ rfl))
def tab_advCheck:List (FuncId×Ct El):= (49,advCheck.ct):: tab_advDelay
theorem tab_advCheck_ok:TabOk Tryd.prog S tab_advCheck:=⟨advCheck.ok,by kernel_rfl,tab_advDelay_ok⟩
end Go.Aw.W
