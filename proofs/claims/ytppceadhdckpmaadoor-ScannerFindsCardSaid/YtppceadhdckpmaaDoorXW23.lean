/- Contracts of the seat (printed by ct.py). -/
import Derived.Test.YtppceadhdckpmaaDoorXW22
set_option linter.unusedVariables false
set_option linter.unusedSimpArgs false
set_option maxRecDepth 20000
set_option maxHeartbeats 1000000
namespace Go.Aw.W
open Go Go.Aw Go.Proofs
attribute [local irreducible] evCode evFun evOps evDs evOne ctxK loopK loopB subC bodyC headS okH roundK
attribute [local irreducible] pFind r9Find
theorem scOwn_eq (s:Scanner): scOwn s=s:=by unfold scOwn;rfl
def scStart.res (r:Scanner×Int): AV El:=.tup [Scanner.av (r.1), .v (.int .i64 (r.2))]
def scStart.news (r:Scanner×Int): List (AObj El):= []
def scStart.L (e v:Scanner×Int): Prop:=scStart.res e=scStart.res v∧scStart.news e=scStart.news v
def scStart (p:ScanParams) (seed:Int) (p2:Int): Scanner×Int:=cond (bif bif bif decide (p.Interval < 4) then true else decide (16384 < p.Interval) then true else decide (p.Window < 4) then true else decide (16384 < p.Window)) (((⟨⟨(0),(0),(false),(0),([]),([]),⟨(0),(0)⟩,(false)⟩,(false),(0),(0),(0),(0),(0),⟨(0),(0)⟩,([]),(0)⟩: Scanner),5)) (cond (decide (p.Interval < p.Window)) (((⟨⟨(0),(0),(false),(0),([]),([]),⟨(0),(0)⟩,(false)⟩,(false),(0),(0),(0),(0),(0),⟨(0),(0)⟩,([]),(0)⟩: Scanner),11)) (cond (bif p.Policy != 0 then p.Policy != 1 else false) (((⟨⟨(0),(0),(false),(0),([]),([]),⟨(0),(0)⟩,(false)⟩,(false),(0),(0),(0),(0),(0),⟨(0),(0)⟩,([]),(0)⟩: Scanner),5)) (cond (bif decide (64 < (↑(List.length p.Accept): Int)) then true else decide (64 < (↑(List.length p.Identities): Int))) (((⟨⟨(0),(0),(false),(0),([]),([]),⟨(0),(0)⟩,(false)⟩,(false),(0),(0),(0),(0),(0),⟨(0),(0)⟩,([]),(0)⟩: Scanner),4)) (cond (aCheck p.Own != 0) (((⟨⟨(0),(0),(false),(0),([]),([]),⟨(0),(0)⟩,(false)⟩,(false),(0),(0),(0),(0),(0),⟨(0),(0)⟩,([]),(0)⟩: Scanner),aCheck p.Own)) (((scOwn {Params:=p,On:=true,Start:=scMoment p2,Upper:=1,Count:=1,Fails:=0,Wins:=0,Wait:={Kind:=0,Bits:=0:Address},Seen:=[],Seed:=seed:Scanner}),0))))))
def scStart.dec (cs:List (AV El)): Option (ScanParams×Int×Int):= popA ScanParams.dec cs fun a0 c0=>popI .u64 c0 fun a1 c1=>popI .i64 c1 fun a2 c2=>popE c2 (a0,a1,a2)
def scStart.enc (x:ScanParams×Int×Int): List (AV El):= [ScanParams.av x.1, .v (.int .u64 x.2.1), .v (.int .i64 x.2.2)]
theorem scStart.dec_ok : ∀cs x,scStart.dec cs=some x→Imp (S:=S) cs (scStart.enc x):= by
 intro cs x h
 unfold scStart.dec at h
 obtain ⟨a0,c0,h0,k0⟩:= popA_some (S:=S) ScanParams.dec_ok h
 obtain ⟨a1,c1,rfl,h1⟩:= popI_some (S:=S) h0
 obtain ⟨a2,c2,rfl,h2⟩:= popI_some (S:=S) h1
 obtain ⟨rfl,rfl⟩:= popE_some (S:=S) h2
 exact (k0 _ (.cons (.cons (.refl _))))
def scStart_nf_g1 (p:ScanParams): Bool:=bif (decide (p.Interval < (4:Int))) then true else (decide ((16384:Int) < p.Interval))
def scStart_nf_g2 (p:ScanParams): Bool:=bif (scStart_nf_g1 p) then true else (decide (p.Window < (4:Int)))
def scStart.nf (p:ScanParams) (seed:Int) (p2:Int) (v:Scanner×Int): Prop:=Ob (o3 (!decide (p.Interval < 4)))∧(Ob (o3 (!decide (p.Interval < 4)))∧(Ob (on (decide (p.Interval < 4)))∧(Ob (o3 (!(scStart_nf_g1 p)))∧(Ob (o3 (!(scStart_nf_g1 p)))∧(Ob (on (scStart_nf_g1 p))∧(Ob (o3 (!(scStart_nf_g2 p)))∧(Ob (o3 (!(scStart_nf_g2 p)))∧(Ob (on (scStart_nf_g2 p))∧(cond (bif bif bif decide (p.Interval < 4) then true else decide (16384 < p.Interval) then true else decide (p.Window < 4) then true else decide (16384 < p.Window)) (scStart.L (((⟨⟨(0),(0),(false),(0),([]),([]),⟨(0),(0)⟩,(false)⟩,(false),(0),(0),(0),(0),(0),⟨(0),(0)⟩,([]),(0)⟩: Scanner),5)) v) (cond (decide (p.Interval < p.Window)) (scStart.L (((⟨⟨(0),(0),(false),(0),([]),([]),⟨(0),(0)⟩,(false)⟩,(false),(0),(0),(0),(0),(0),⟨(0),(0)⟩,([]),(0)⟩: Scanner),11)) v) (Ob (o3 (p.Policy != 0))∧(Ob (o3 (p.Policy != 0))∧(Ob (o2 (p.Policy != 0))∧(cond (bif p.Policy != 0 then p.Policy != 1 else false) (scStart.L (((⟨⟨(0),(0),(false),(0),([]),([]),⟨(0),(0)⟩,(false)⟩,(false),(0),(0),(0),(0),(0),⟨(0),(0)⟩,([]),(0)⟩: Scanner),5)) v) ((List.length p.Accept≤(9223372036854775807:Nat))→(Ob (o3 (!decide (64 < (↑(List.length p.Accept): Int))))∧(Ob (o3 (!decide (64 < (↑(List.length p.Accept): Int))))∧(Ob (o3 (!decide (64 < (↑(List.length p.Accept): Int))))∧(Ob (on (decide (64 < (↑(List.length p.Accept): Int))))∧(cond (bif decide (64 < (↑(List.length p.Accept): Int)) then true else decide (64 < (↑(List.length p.Identities): Int))) (scStart.L (((⟨⟨(0),(0),(false),(0),([]),([]),⟨(0),(0)⟩,(false)⟩,(false),(0),(0),(0),(0),(0),⟨(0),(0)⟩,([]),(0)⟩: Scanner),4)) v) (cond (aCheck p.Own != 0) (scStart.L (((⟨⟨(0),(0),(false),(0),([]),([]),⟨(0),(0)⟩,(false)⟩,(false),(0),(0),(0),(0),(0),⟨(0),(0)⟩,([]),(0)⟩: Scanner),aCheck p.Own)) v) (Ob (List.length p.Accept≤(4611686018427:Nat)∧List.length p.Identities≤(4611686018427:Nat)∧(0:Nat)≤(4611686018427:Nat))∧(scStart.L (((scOwn {Params:=p,On:=true,Start:=scMoment p2,Upper:=1,Count:=1,Fails:=0,Wins:=0,Wait:={Kind:=0,Bits:=0:Address},Seen:=[],Seed:=seed:Scanner}),0)) v)))))))))))))))))))))))
theorem scStart.nf_ok (p:ScanParams) (seed:Int) (p2:Int) (v:Scanner×Int): evFun (mkCxI Tryd.prog S tab_r22Initiate 0 true sum_fIdx) 4 36 [ScanParams.av p, .v (.int .u64 seed), .v (.int .i64 p2)] [] (fun r' H'=>Gives r' H' (scStart.res v) (scStart.news v))= scStart.nf p seed p2 v:=by kernel_rfl
theorem scStart.key (p:ScanParams) (seed:Int) (p2:Int) (hp:p.Accept.length≤4611686018427∧p.Identities.length≤4611686018427) (v:Scanner×Int) (hv:v=scStart p seed p2): scStart.nf p seed p2 v:=by
 unfold scStart at hv
 unfold scStart.nf
 iterate 2 refine ⟨⟨o3_ok _⟩, ?_⟩
 refine ⟨⟨on_ok _⟩, ?_⟩
 iterate 2 refine ⟨⟨o3_ok _⟩, ?_⟩
 refine ⟨⟨on_ok _⟩, ?_⟩
 iterate 2 refine ⟨⟨o3_ok _⟩, ?_⟩
 refine ⟨⟨on_ok _⟩, ?_⟩
 revert hv;refine by_cond2 (fun hb hv=>?_) (fun hb hv=>?_)
 ·subst hv;exact ⟨rfl,rfl⟩
 ·revert hv;refine by_cond2 (fun hb hv=>?_) (fun hb hv=>?_)
  ·subst hv;exact ⟨rfl,rfl⟩
  ·refine ⟨⟨o3_ok _⟩, ?_⟩
   refine ⟨⟨o3_ok _⟩, ?_⟩
   refine ⟨⟨o2_ok _⟩, ?_⟩
   revert hv;refine by_cond2 (fun hb hv=>?_) (fun hb hv=>?_)
   ·subst hv;exact ⟨rfl,rfl⟩
   ·intro hlen
    iterate 3 refine ⟨⟨o3_ok _⟩, ?_⟩
    refine ⟨⟨on_ok _⟩, ?_⟩
    revert hv;refine by_cond2 (fun hb hv=>?_) (fun hb hv=>?_)
    ·subst hv;exact ⟨rfl,rfl⟩
    ·revert hv;refine by_cond2 (fun hb hv=>?_) (fun hb hv=>?_)
     ·subst hv;exact ⟨rfl,rfl⟩
     ·refine ⟨⟨by (try clear hv);(try clear q1 q2);(try clear hk);(omega)⟩, ?_⟩
      subst hv;exact ⟨rfl,rfl⟩
def scStart.ct:Ct El:=ctOf scStart.dec (fun x=>[x.1.Accept.length≤4611686018427∧x.1.Identities.length≤4611686018427]) (fun x=>scStart.res (scStart x.1 x.2.1 x.2.2)) (fun x=>scStart.news (scStart x.1 x.2.1 x.2.2))
theorem scStart.ok:CtOk (mkCx Tryd.prog S [] 0) 36 scStart.ct:=ct_mk (C:=(mkCxI Tryd.prog S tab_r22Initiate 0 true sum_fIdx)) (mkCxI_ok sigOk mixed tab_r22Initiate_ok 0 true sum_fIdx_ok) scStart.dec_ok (fun x=>rfl) 4 (fun x hp=>(scStart.nf_ok x.1 x.2.1 x.2.2 _).mpr (scStart.key x.1 x.2.1 x.2.2 (hp _ (List.mem_singleton.2 rfl)) _ rfl))
def tab_scStart:List (FuncId×Ct El):= (36,scStart.ct):: tab_r22Initiate
theorem tab_scStart_ok:TabOk Tryd.prog S tab_scStart:=⟨scStart.ok,by kernel_rfl,tab_r22Initiate_ok⟩
def scMiss.res (r:Scanner): AV El:=Scanner.av (r)
def scMiss.news (r:Scanner): List (AObj El):= []
def scMiss.L (e v:Scanner): Prop:=scMiss.res e=scMiss.res v∧scMiss.news e=scMiss.news v
def scMiss (s:Scanner): Scanner:=cond (bif !(scOwn s).On then true else (scOwn s).Wait.Kind==0 && (scOwn s).Wait.Bits==0) ((scOwn s)) (cond (IntKind.wrap IntKind.i64 ((scOwn s).Fails+(1:Int))== (2:Int)) ((scBackOff {Params:=(scOwn s).Params,On:=(scOwn s).On,Start:=(scOwn s).Start,Upper:=minI (IntKind.wrap IntKind.i64 (2*(scOwn s).Upper)) 256,Count:=(scOwn s).Count,Fails:=0,Wins:=0,Wait:={Kind:=0,Bits:=0:Address},Seen:=(scOwn s).Seen,Seed:=(scOwn s).Seed:Scanner})) ((scBackOff {Params:=(scOwn s).Params,On:=(scOwn s).On,Start:=(scOwn s).Start,Upper:=(scOwn s).Upper,Count:=(scOwn s).Count,Fails:=IntKind.wrap IntKind.i64 ((scOwn s).Fails+1),Wins:=0,Wait:={Kind:=0,Bits:=0:Address},Seen:=(scOwn s).Seen,Seed:=(scOwn s).Seed:Scanner})))
def scMiss.dec (cs:List (AV El)): Option (Scanner):= popA Scanner.dec cs fun a0 c0=>popE c0 a0
def scMiss.enc (x:Scanner): List (AV El):= [Scanner.av x]
theorem scMiss.dec_ok : ∀cs x,scMiss.dec cs=some x→Imp (S:=S) cs (scMiss.enc x):= by
 intro cs x h
 unfold scMiss.dec at h
 obtain ⟨a0,c0,h0,k0⟩:= popA_some (S:=S) Scanner.dec_ok h
 obtain ⟨rfl,rfl⟩:= popE_some (S:=S) h0
 exact (k0 _ (.refl _))
def scMiss.nf (s:Scanner) (v:Scanner): Prop:=Ob (List.length s.Params.Accept≤(4611686018427:Nat)∧List.length s.Params.Identities≤(4611686018427:Nat)∧List.length s.Seen≤(4611686018427:Nat))∧(Ob (o3 (!!(scOwn s).On))∧(Ob (o3 (!!(scOwn s).On))∧(Ob (o3 (!!(scOwn s).On))∧(Ob (on (!(scOwn s).On))∧(cond (bif !(scOwn s).On then true else (scOwn s).Wait.Kind==0 && (scOwn s).Wait.Bits==0) (scMiss.L ((scOwn s)) v) (cond (IntKind.wrap IntKind.i64 ((scOwn s).Fails+(1:Int))== (2:Int)) (Ob (minI (IntKind.wrap IntKind.i64 (2*(scOwn s).Upper)) (256:Int)≤(9223372036854775807:Int))∧(scMiss.L ((scBackOff {Params:=(scOwn s).Params,On:=(scOwn s).On,Start:=(scOwn s).Start,Upper:=minI (IntKind.wrap IntKind.i64 (2*(scOwn s).Upper)) 256,Count:=(scOwn s).Count,Fails:=0,Wins:=0,Wait:={Kind:=0,Bits:=0:Address},Seen:=(scOwn s).Seen,Seed:=(scOwn s).Seed:Scanner})) v)) (Ob ((scOwn s).Upper≤9223372036854775807)∧(scMiss.L ((scBackOff {Params:=(scOwn s).Params,On:=(scOwn s).On,Start:=(scOwn s).Start,Upper:=(scOwn s).Upper,Count:=(scOwn s).Count,Fails:=IntKind.wrap IntKind.i64 ((scOwn s).Fails+1),Wins:=0,Wait:={Kind:=0,Bits:=0:Address},Seen:=(scOwn s).Seen,Seed:=(scOwn s).Seed:Scanner})) v))))))))
theorem scMiss.nf_ok (s:Scanner) (v:Scanner): evFun (mkCxI Tryd.prog S tab_r22Initiate 0 true sum_fIdx) 4 42 [Scanner.av s] [] (fun r' H'=>Gives r' H' (scMiss.res v) (scMiss.news v))= scMiss.nf s v:=by kernel_rfl
theorem scMiss.key (s:Scanner) (hp:s.Params.Accept.length≤4611686018427∧s.Params.Identities.length≤4611686018427∧s.Seen.length≤4611686018427∧s.Upper≤9223372036854775807) (v:Scanner) (hv:v=scMiss s): scMiss.nf s v:=by
 unfold scMiss at hv
 unfold scMiss.nf
 refine ⟨⟨?_⟩, ?_⟩;rotate_left
 iterate 3 refine ⟨⟨o3_ok _⟩, ?_⟩
 refine ⟨⟨on_ok _⟩, ?_⟩
 revert hv;refine by_cond2 (fun hb hv=>?_) (fun hb hv=>?_)
 subst hv;exact ⟨rfl,rfl⟩
 revert hv;refine by_cond2 (fun hb hv=>?_) (fun hb hv=>?_)
 refine ⟨⟨by (try clear hv);(try clear q1 q2);(try clear hk);((unfold minI;split <;> omega))⟩, ?_⟩
 subst hv;exact ⟨rfl,rfl⟩
 refine ⟨⟨?_⟩, ?_⟩;rotate_left
 subst hv;exact ⟨rfl,rfl⟩
 all_goals ((try clear hv);(try clear q1 q2);(try clear hk);(first | omega | (simp only [scOwn_eq] at *;(first | assumption | omega))))
def scMiss.ct:Ct El:=ctOf scMiss.dec (fun x=>[x.Params.Accept.length≤4611686018427∧x.Params.Identities.length≤4611686018427∧x.Seen.length≤4611686018427∧x.Upper≤9223372036854775807]) (fun x=>scMiss.res (scMiss x)) (fun x=>scMiss.news (scMiss x))
theorem scMiss.ok:CtOk (mkCx Tryd.prog S [] 0) 42 scMiss.ct:=ct_mk (C:=(mkCxI Tryd.prog S tab_r22Initiate 0 true sum_fIdx)) (mkCxI_ok sigOk mixed tab_r22Initiate_ok 0 true sum_fIdx_ok) scMiss.dec_ok (fun x=>rfl) 4 (fun x hp=>(scMiss.nf_ok x _).mpr (scMiss.key x (hp _ (List.mem_singleton.2 rfl)) _ rfl))
def tab_scMiss:List (FuncId×Ct El):= (42,scMiss.ct):: tab_scStart
theorem tab_scMiss_ok:TabOk Tryd.prog S tab_scMiss:=⟨scMiss.ok,by kernel_rfl,tab_scStart_ok⟩
def scStop.res (r:Scanner): AV El:=Scanner.av (r)
def scStop.news (r:Scanner): List (AObj El):= []
def scStop.L (e v:Scanner): Prop:=scStop.res e=scStop.res v∧scStop.news e=scStop.news v
def scStop (s:Scanner): Scanner:=(⟨⟨((scOwn s).Params.Interval),((scOwn s).Params.Window),((scOwn s).Params.Active),((scOwn s).Params.Policy),((scOwn s).Params.Accept),((scOwn s).Params.Identities),⟨((scOwn s).Params.Own.Kind),((scOwn s).Params.Own.Bits)⟩,((scOwn s).Params.Unique)⟩,(false),((scOwn s).Start),((scOwn s).Upper),((scOwn s).Count),((scOwn s).Fails),((scOwn s).Wins),⟨(0),(0)⟩,((scOwn s).Seen),((scOwn s).Seed)⟩: Scanner)
def scStop.dec (cs:List (AV El)): Option (Scanner):= popA Scanner.dec cs fun a0 c0=>popE c0 a0
def scStop.enc (x:Scanner): List (AV El):= [Scanner.av x]
theorem scStop.dec_ok : ∀cs x,scStop.dec cs=some x→Imp (S:=S) cs (scStop.enc x):= by
 intro cs x h
 unfold scStop.dec at h
 obtain ⟨a0,c0,h0,k0⟩:= popA_some (S:=S) Scanner.dec_ok h
 obtain ⟨rfl,rfl⟩:= popE_some (S:=S) h0
 exact (k0 _ (.refl _))
def scStop.nf (s:Scanner) (v:Scanner): Prop:=Ob (List.length s.Params.Accept≤(4611686018427:Nat)∧List.length s.Params.Identities≤(4611686018427:Nat)∧List.length s.Seen≤(4611686018427:Nat))∧(scStop.L ((⟨⟨((scOwn s).Params.Interval),((scOwn s).Params.Window),((scOwn s).Params.Active),((scOwn s).Params.Policy),((scOwn s).Params.Accept),((scOwn s).Params.Identities),⟨((scOwn s).Params.Own.Kind),((scOwn s).Params.Own.Bits)⟩,((scOwn s).Params.Unique)⟩,(false),((scOwn s).Start),((scOwn s).Upper),((scOwn s).Count),((scOwn s).Fails),((scOwn s).Wins),⟨(0),(0)⟩,((scOwn s).Seen),((scOwn s).Seed)⟩: Scanner)) v)
theorem scStop.nf_ok (s:Scanner) (v:Scanner): evFun (mkCxI Tryd.prog S tab_r22Initiate 0 true sum_fIdx) 4 69 [Scanner.av s] [] (fun r' H'=>Gives r' H' (scStop.res v) (scStop.news v))= scStop.nf s v:=by kernel_rfl
theorem scStop.key (s:Scanner) (hp:s.Params.Accept.length≤4611686018427∧s.Params.Identities.length≤4611686018427∧s.Seen.length≤4611686018427) (v:Scanner) (hv:v=scStop s): scStop.nf s v:=by
 unfold scStop at hv
 unfold scStop.nf
 refine ⟨⟨by (try clear hv);(try clear q1 q2);(try clear hk);(omega)⟩, ?_⟩
 subst hv;exact ⟨rfl,rfl⟩
def scStop.ct:Ct El:=ctOf scStop.dec (fun x=>[x.Params.Accept.length≤4611686018427∧x.Params.Identities.length≤4611686018427∧x.Seen.length≤4611686018427]) (fun x=>scStop.res (scStop x)) (fun x=>scStop.news (scStop x))
theorem scStop.ok:CtOk (mkCx Tryd.prog S [] 0) 69 scStop.ct:=ct_mk (C:=(mkCxI Tryd.prog S tab_r22Initiate 0 true sum_fIdx)) (mkCxI_ok sigOk mixed tab_r22Initiate_ok 0 true sum_fIdx_ok) scStop.dec_ok (fun x=>rfl) 4 (fun x hp=>(scStop.nf_ok x _).mpr (scStop.key x (hp _ (List.mem_singleton.2 rfl)) _ rfl))
def tab_scStop:List (FuncId×Ct El):= (69,scStop.ct):: tab_scMiss
theorem tab_scStop_ok:TabOk Tryd.prog S tab_scStop:=⟨scStop.ok,by kernel_rfl,tab_scMiss_ok⟩
end Go.Aw.W
