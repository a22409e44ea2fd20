/- Contracts of the seat (printed by ct.py). -/
import Derived.Test.YtppceadhdckpmaaGreatDoorXW21
set_option linter.unusedVariables false
set_option linter.unusedSimpArgs false
set_option maxRecDepth 20000
set_option maxHeartbeats 1000000
namespace Go.Aw.W
open Go Go.Aw Go.Proofs
attribute [local irreducible] evCode evFun evOps evDs evOne ctxK loopK loopB subC bodyC headS okH roundK
attribute [local irreducible] pFind r9Find
def scOwn.res (r:Scanner): AV El:=Scanner.av (r)
def scOwn.news (r:Scanner): List (AObj El):= []
def scOwn.L (e v:Scanner): Prop:=scOwn.res e=scOwn.res v∧scOwn.news e=scOwn.news v
def scOwn (s:Scanner): Scanner:=(⟨⟨(s.Params.Interval),(s.Params.Window),(s.Params.Active),(s.Params.Policy),(clA s.Params.Accept),(clI s.Params.Identities),⟨(s.Params.Own.Kind),(s.Params.Own.Bits)⟩,(s.Params.Unique)⟩,(s.On),(s.Start),(s.Upper),(s.Count),(s.Fails),(s.Wins),⟨(s.Wait.Kind),(s.Wait.Bits)⟩,(clA s.Seen),(s.Seed)⟩: Scanner)
def scOwn.dec (cs:List (AV El)): Option (Scanner):= popA Scanner.dec cs fun a0 c0=>popE c0 a0
def scOwn.enc (x:Scanner): List (AV El):= [Scanner.av x]
theorem scOwn.dec_ok : ∀cs x,scOwn.dec cs=some x→Imp (S:=S) cs (scOwn.enc x):= by
 intro cs x h
 unfold scOwn.dec at h
 obtain ⟨a0,c0,h0,k0⟩:= popA_some (S:=S) Scanner.dec_ok h
 obtain ⟨rfl,rfl⟩:= popE_some (S:=S) h0
 exact (k0 _ (.refl _))
def scOwn.nf (s:Scanner) (v:Scanner): Prop:=Ob (List.length s.Params.Accept*(16:Nat)≤(140737488355328:Nat))∧(Ob (List.length s.Params.Identities*(24:Nat)≤(140737488355328:Nat))∧(Ob (List.length s.Seen*(16:Nat)≤(140737488355328:Nat))∧(scOwn.L ((⟨⟨(s.Params.Interval),(s.Params.Window),(s.Params.Active),(s.Params.Policy),(clA s.Params.Accept),(clI s.Params.Identities),⟨(s.Params.Own.Kind),(s.Params.Own.Bits)⟩,(s.Params.Unique)⟩,(s.On),(s.Start),(s.Upper),(s.Count),(s.Fails),(s.Wins),⟨(s.Wait.Kind),(s.Wait.Bits)⟩,(clA s.Seen),(s.Seed)⟩: Scanner)) v)))
theorem scOwn.nf_ok (s:Scanner) (v:Scanner): evFun (mkCxI Tryz.prog S tab_r22Start 0 true sum_fIdx) 4 22 [Scanner.av s] [] (fun r' H'=>Gives r' H' (scOwn.res v) (scOwn.news v))= scOwn.nf s v:=by kernel_rfl
theorem scOwn.key (s:Scanner) (hp:s.Params.Accept.length≤4611686018427∧s.Params.Identities.length≤4611686018427∧s.Seen.length≤4611686018427) (v:Scanner) (hv:v=scOwn s): scOwn.nf s v:=by
 unfold scOwn at hv
 unfold scOwn.nf
 refine ⟨⟨?_⟩, ?_⟩;rotate_left
 refine ⟨⟨?_⟩, ?_⟩;rotate_left
 refine ⟨⟨?_⟩, ?_⟩;rotate_left
 subst hv;exact ⟨rfl,rfl⟩
 all_goals ((try clear hv);(try clear q1 q2);(try clear hk);(first | omega | ((try simp only [decide_eq_true_eq,decide_eq_false_iff_not,Bool.not_eq_true,Bool.not_eq_false,Bool.and_eq_true,Bool.or_eq_true,Bool.not_not,cond_and,cond_or,List.length_append,List.length_cons,List.length_nil] at *);(first | done | ((first | omega | (intros;(try simp only [Bool.not_not,cond_and,cond_or,Bool.and_eq_true,decide_eq_true_eq] at *);(refine ⟨?_,pFind_lt _ _⟩;(first | omega | (simp_all;done))))| (intros;(try simp only [Bool.not_not,cond_and,cond_or,Bool.and_eq_true,decide_eq_true_eq] at *);(refine ⟨?_,r9Find_lt _ _⟩;(first | omega | (simp_all;done))))| (intros;(try simp only [Bool.not_not,cond_and,cond_or,Bool.and_eq_true,decide_eq_true_eq] at *);(exact ⟨by decide,by simp⟩))| (intros;(try simp only [Bool.not_not,cond_and,cond_or,Bool.and_eq_true,decide_eq_true_eq] at *);(rw [wu64 _ (by unfold maxI;split <;> omega) (by unfold maxI;split <;> omega)];unfold maxI;split <;> omega))| (intros;(try simp only [Bool.not_not,cond_and,cond_or,Bool.and_eq_true,decide_eq_true_eq] at *);(simp_all [Bool.not_not];omega))| (intros;(try simp only [Bool.not_not,cond_and,cond_or,Bool.and_eq_true,decide_eq_true_eq] at *);(exact band_nn rfl _ _))| (intros;(try simp only [Bool.not_not,cond_and,cond_or,Bool.and_eq_true,decide_eq_true_eq] at *);(exact (wu64s _).2.1))| (intros;(try simp only [Bool.not_not,cond_and,cond_or,Bool.and_eq_true,decide_eq_true_eq] at *);(simp only [Bool.or_eq_false_iff,Bool.and_eq_false_iff,decide_eq_false_iff_not,decide_eq_true_eq,bne_iff_ne,beq_iff_eq,bne_eq_false_iff_eq,beq_eq_false_iff_ne,ne_eq,true_and] at *;omega))| (intros;(try simp only [Bool.not_not,cond_and,cond_or,Bool.and_eq_true,decide_eq_true_eq] at *);(simp only [List.length_drop,List.length_take,List.length_append,List.length_cons,List.length_nil] at *;omega))| (intros;omega)| (intros;simp only [Bool.not_not,cond_and,cond_or,Bool.and_eq_true,decide_eq_true_eq] at *;omega)| (intros;simp_all [Bool.not_not];done)))))))
def scOwn.ct:Ct El:=ctOf scOwn.dec (fun x=>[x.Params.Accept.length≤4611686018427∧x.Params.Identities.length≤4611686018427∧x.Seen.length≤4611686018427]) (fun x=>scOwn.res (scOwn x)) (fun x=>scOwn.news (scOwn x))
theorem scOwn.ok:CtOk (mkCx Tryz.prog S [] 0) 22 scOwn.ct:=ct_mk (C:=(mkCxI Tryz.prog S tab_r22Start 0 true sum_fIdx)) (mkCxI_ok sigOk mixed tab_r22Start_ok 0 true sum_fIdx_ok) scOwn.dec_ok (fun x=>rfl) 4 (fun x hp=>(scOwn.nf_ok x _).mpr (scOwn.key x (hp _ (List.mem_singleton.2 rfl)) _ rfl))
def tab_scOwn:List (FuncId×Ct El):= (22,scOwn.ct):: tab_r22Start
theorem tab_scOwn_ok:TabOk Tryz.prog S tab_scOwn:=⟨scOwn.ok,by kernel_rfl,tab_r22Start_ok⟩
def scBackOff.res (r:Scanner): AV El:=Scanner.av (r)
def scBackOff.news (r:Scanner): List (AObj El):= []
def scBackOff.L (e v:Scanner): Prop:=scBackOff.res e=scBackOff.res v∧scBackOff.news e=scBackOff.news v
def scBackOff (s:Scanner): Scanner:=(⟨⟨(s.Params.Interval),(s.Params.Window),(s.Params.Active),(s.Params.Policy),(s.Params.Accept),(s.Params.Identities),⟨(s.Params.Own.Kind),(s.Params.Own.Bits)⟩,(s.Params.Unique)⟩,(s.On),(s.Start),(s.Upper),(IntKind.wrap IntKind.i64 ((1:Int)+ IntKind.wrap IntKind.i64 (Int.tmod (pDerive s.Seed {data:=#[(98:UInt8),(97:UInt8),(99:UInt8),(107:UInt8),(111:UInt8),(102:UInt8),(102:UInt8)]: ByteArray} []) (IntKind.wrap IntKind.u64 (maxI s.Upper (1:Int)))))),(s.Fails),(s.Wins),⟨(s.Wait.Kind),(s.Wait.Bits)⟩,(s.Seen),(pDerive s.Seed {data:=#[(98:UInt8),(97:UInt8),(99:UInt8),(107:UInt8),(111:UInt8),(102:UInt8),(102:UInt8)]: ByteArray} [])⟩: Scanner)
def scBackOff.dec (cs:List (AV El)): Option (Scanner):= popA Scanner.dec cs fun a0 c0=>popE c0 a0
def scBackOff.enc (x:Scanner): List (AV El):= [Scanner.av x]
theorem scBackOff.dec_ok : ∀cs x,scBackOff.dec cs=some x→Imp (S:=S) cs (scBackOff.enc x):= by
 intro cs x h
 unfold scBackOff.dec at h
 obtain ⟨a0,c0,h0,k0⟩:= popA_some (S:=S) Scanner.dec_ok h
 obtain ⟨rfl,rfl⟩:= popE_some (S:=S) h0
 exact (k0 _ (.refl _))
def scBackOff.nf (s:Scanner) (v:Scanner): Prop:=Ob (List.length (bytesI {data:=#[(98:UInt8),(97:UInt8),(99:UInt8),(107:UInt8),(111:UInt8),(102:UInt8),(102:UInt8)]: ByteArray})≤(1099511627776:Nat)∧(0:Nat)≤(1099511627776:Nat))∧(Ob (IntKind.wrap IntKind.u64 (maxI s.Upper (1:Int))≠(0:Int))∧(scBackOff.L ((⟨⟨(s.Params.Interval),(s.Params.Window),(s.Params.Active),(s.Params.Policy),(s.Params.Accept),(s.Params.Identities),⟨(s.Params.Own.Kind),(s.Params.Own.Bits)⟩,(s.Params.Unique)⟩,(s.On),(s.Start),(s.Upper),(IntKind.wrap IntKind.i64 ((1:Int)+ IntKind.wrap IntKind.i64 (Int.tmod (pDerive s.Seed {data:=#[(98:UInt8),(97:UInt8),(99:UInt8),(107:UInt8),(111:UInt8),(102:UInt8),(102:UInt8)]: ByteArray} []) (IntKind.wrap IntKind.u64 (maxI s.Upper (1:Int)))))),(s.Fails),(s.Wins),⟨(s.Wait.Kind),(s.Wait.Bits)⟩,(s.Seen),(pDerive s.Seed {data:=#[(98:UInt8),(97:UInt8),(99:UInt8),(107:UInt8),(111:UInt8),(102:UInt8),(102:UInt8)]: ByteArray} [])⟩: Scanner)) v))
theorem scBackOff.nf_ok (s:Scanner) (v:Scanner): evFun (mkCxI Tryz.prog S tab_r22Start 0 true sum_fIdx) 4 37 [Scanner.av s] [] (fun r' H'=>Gives r' H' (scBackOff.res v) (scBackOff.news v))= scBackOff.nf s v:=by kernel_rfl
theorem scBackOff.key (s:Scanner) (hp:s.Upper≤9223372036854775807) (v:Scanner) (hv:v=scBackOff s): scBackOff.nf s v:=by
 unfold scBackOff at hv
 unfold scBackOff.nf
 refine ⟨⟨by (try clear hv);(try clear q1 q2);(try clear hk);(first | omega | ((try simp only [decide_eq_true_eq,decide_eq_false_iff_not,Bool.not_eq_true,Bool.not_eq_false,Bool.and_eq_true,Bool.or_eq_true,Bool.not_not,cond_and,cond_or,List.length_append,List.length_cons,List.length_nil] at *);(first | done | ((first | omega | (intros;(try simp only [Bool.not_not,cond_and,cond_or,Bool.and_eq_true,decide_eq_true_eq] at *);(refine ⟨?_,pFind_lt _ _⟩;(first | omega | (simp_all;done))))| (intros;(try simp only [Bool.not_not,cond_and,cond_or,Bool.and_eq_true,decide_eq_true_eq] at *);(refine ⟨?_,r9Find_lt _ _⟩;(first | omega | (simp_all;done))))| (intros;(try simp only [Bool.not_not,cond_and,cond_or,Bool.and_eq_true,decide_eq_true_eq] at *);(exact ⟨by decide,by simp⟩))| (intros;(try simp only [Bool.not_not,cond_and,cond_or,Bool.and_eq_true,decide_eq_true_eq] at *);(rw [wu64 _ (by unfold maxI;split <;> omega) (by unfold maxI;split <;> omega)];unfold maxI;split <;> omega))| (intros;(try simp only [Bool.not_not,cond_and,cond_or,Bool.and_eq_true,decide_eq_true_eq] at *);(simp_all [Bool.not_not];omega))| (intros;(try simp only [Bool.not_not,cond_and,cond_or,Bool.and_eq_true,decide_eq_true_eq] at *);(exact band_nn rfl _ _))| (intros;(try simp only [Bool.not_not,cond_and,cond_or,Bool.and_eq_true,decide_eq_true_eq] at *);(exact (wu64s _).2.1))| (intros;(try simp only [Bool.not_not,cond_and,cond_or,Bool.and_eq_true,decide_eq_true_eq] at *);(simp only [Bool.or_eq_false_iff,Bool.and_eq_false_iff,decide_eq_false_iff_not,decide_eq_true_eq,bne_iff_ne,beq_iff_eq,bne_eq_false_iff_eq,beq_eq_false_iff_ne,ne_eq,true_and] at *;omega))| (intros;(try simp only [Bool.not_not,cond_and,cond_or,Bool.and_eq_true,decide_eq_true_eq] at *);(simp only [List.length_drop,List.length_take,List.length_append,List.length_cons,List.length_nil] at *;omega))| (intros;omega)| (intros;simp only [Bool.not_not,cond_and,cond_or,Bool.and_eq_true,decide_eq_true_eq] at *;omega)| (intros;simp_all [Bool.not_not];done))))))⟩, ?_⟩
 refine ⟨⟨by (try clear hv);(try clear q1 q2);(try clear hk);(first | omega | ((try simp only [decide_eq_true_eq,decide_eq_false_iff_not,Bool.not_eq_true,Bool.not_eq_false,Bool.and_eq_true,Bool.or_eq_true,Bool.not_not,cond_and,cond_or,List.length_append,List.length_cons,List.length_nil] at *);(first | done | (have:=wu64s (maxI s.Upper (1:Int));(first | omega | (intros;(try simp only [Bool.not_not,cond_and,cond_or,Bool.and_eq_true,decide_eq_true_eq] at *);(refine ⟨?_,pFind_lt _ _⟩;(first | omega | (simp_all;done))))| (intros;(try simp only [Bool.not_not,cond_and,cond_or,Bool.and_eq_true,decide_eq_true_eq] at *);(refine ⟨?_,r9Find_lt _ _⟩;(first | omega | (simp_all;done))))| (intros;(try simp only [Bool.not_not,cond_and,cond_or,Bool.and_eq_true,decide_eq_true_eq] at *);(exact ⟨by decide,by simp⟩))| (intros;(try simp only [Bool.not_not,cond_and,cond_or,Bool.and_eq_true,decide_eq_true_eq] at *);(rw [wu64 _ (by unfold maxI;split <;> omega) (by unfold maxI;split <;> omega)];unfold maxI;split <;> omega))| (intros;(try simp only [Bool.not_not,cond_and,cond_or,Bool.and_eq_true,decide_eq_true_eq] at *);(simp_all [Bool.not_not];omega))| (intros;(try simp only [Bool.not_not,cond_and,cond_or,Bool.and_eq_true,decide_eq_true_eq] at *);(exact band_nn rfl _ _))| (intros;(try simp only [Bool.not_not,cond_and,cond_or,Bool.and_eq_true,decide_eq_true_eq] at *);(exact (wu64s _).2.1))| (intros;(try simp only [Bool.not_not,cond_and,cond_or,Bool.and_eq_true,decide_eq_true_eq] at *);(simp only [Bool.or_eq_false_iff,Bool.and_eq_false_iff,decide_eq_false_iff_not,decide_eq_true_eq,bne_iff_ne,beq_iff_eq,bne_eq_false_iff_eq,beq_eq_false_iff_ne,ne_eq,true_and] at *;omega))| (intros;(try simp only [Bool.not_not,cond_and,cond_or,Bool.and_eq_true,decide_eq_true_eq] at *);(simp only [List.length_drop,List.length_take,List.length_append,List.length_cons,List.length_nil] at *;omega))| (intros;omega)| (intros;simp only [Bool.not_not,cond_and,cond_or,Bool.and_eq_true,decide_eq_true_eq] at *;omega)| (intros;simp_all [Bool.not_not];done))))))⟩, ?_⟩
 subst hv;exact ⟨rfl,rfl⟩
def scBackOff.ct:Ct El:=ctOf scBackOff.dec (fun x=>[x.Upper≤9223372036854775807]) (fun x=>scBackOff.res (scBackOff x)) (fun x=>scBackOff.news (scBackOff x))
theorem scBackOff.ok:CtOk (mkCx Tryz.prog S [] 0) 37 scBackOff.ct:=ct_mk (C:=(mkCxI Tryz.prog S tab_r22Start 0 true sum_fIdx)) (mkCxI_ok sigOk mixed tab_r22Start_ok 0 true sum_fIdx_ok) scBackOff.dec_ok (fun x=>rfl) 4 (fun x hp=>(scBackOff.nf_ok x _).mpr (scBackOff.key x (hp _ (List.mem_singleton.2 rfl)) _ rfl))
def tab_scBackOff:List (FuncId×Ct El):= (37,scBackOff.ct):: tab_scOwn
theorem tab_scBackOff_ok:TabOk Tryz.prog S tab_scBackOff:=⟨scBackOff.ok,by kernel_rfl,tab_scOwn_ok⟩
def r22Entry.res (r:Address): AV El:=Address.av (r)
def r22Entry.news (r:Address): List (AObj El):= []
def r22Entry.L (e v:Address): Prop:=r22Entry.res e=r22Entry.res v∧r22Entry.news e=r22Entry.news v
def r22Entry (ids:List Identity) (p:AdvPDU): Address:=cond (p.Kind==(4:Int)) ((⟨(IntKind.wrap IntKind.i64 ((r22name ids p.Sender).Kind+(16:Int))),((r22name ids p.Sender).Bits)⟩: Address)) ((r22name ids p.Sender))
def r22Entry.dec (cs:List (AV El)): Option ((List Identity)×AdvPDU):= popS 88 cs fun a0 c0=>popA AdvPDU.dec c0 fun a1 c1=>popE c1 (a0,a1)
def r22Entry.enc (x:(List Identity)×AdvPDU): List (AV El):= [.sl 88 (x.1:List (El 88)) false,AdvPDU.av x.2]
theorem r22Entry.dec_ok : ∀cs x,r22Entry.dec cs=some x→Imp (S:=S) cs (r22Entry.enc x):= by
 intro cs x h
 unfold r22Entry.dec at h
 obtain ⟨a0,c0,h0,k0⟩:= popS_some (S:=S) (t:=88) h
 obtain ⟨a1,c1,h1,k1⟩:= popA_some (S:=S) AdvPDU.dec_ok h0
 obtain ⟨rfl,rfl⟩:= popE_some (S:=S) h1
 exact (k0 _ (k1 _ (.refl _)))
def r22Entry.nf (ids:List Identity) (p:AdvPDU) (v:Address): Prop:=cond (p.Kind==(4:Int)) (r22Entry.L ((⟨(IntKind.wrap IntKind.i64 ((r22name ids p.Sender).Kind+(16:Int))),((r22name ids p.Sender).Bits)⟩: Address)) v) (r22Entry.L ((r22name ids p.Sender)) v)
theorem r22Entry.nf_ok (ids:List Identity) (p:AdvPDU) (v:Address): evFun (mkCxI Tryz.prog S tab_r22Start 0 true sum_fIdx) 4 53 [.sl 88 (ids:List (El 88)) false,AdvPDU.av p] [] (fun r' H'=>Gives r' H' (r22Entry.res v) (r22Entry.news v))= r22Entry.nf ids p v:=by kernel_rfl
theorem r22Entry.key (ids:List Identity) (p:AdvPDU) (v:Address) (hv:v=r22Entry ids p): r22Entry.nf ids p v:=by
 unfold r22Entry at hv
 unfold r22Entry.nf
 revert hv;refine by_cond2 (fun hb hv=>?_) (fun hb hv=>?_)
 ·subst hv;exact ⟨rfl,rfl⟩
 ·subst hv;exact ⟨rfl,rfl⟩
def r22Entry.ct:Ct El:=ctOf r22Entry.dec (fun _=>[]) (fun x=>r22Entry.res (r22Entry x.1 x.2)) (fun x=>r22Entry.news (r22Entry x.1 x.2))
theorem r22Entry.ok:CtOk (mkCx Tryz.prog S [] 0) 53 r22Entry.ct:=ct_mk (C:=(mkCxI Tryz.prog S tab_r22Start 0 true sum_fIdx)) (mkCxI_ok sigOk mixed tab_r22Start_ok 0 true sum_fIdx_ok) r22Entry.dec_ok (fun x=>rfl) 4 (fun x _=>(r22Entry.nf_ok x.1 x.2 _).mpr (r22Entry.key x.1 x.2 _ rfl))
def tab_r22Entry:List (FuncId×Ct El):= (53,r22Entry.ct):: tab_scBackOff
theorem tab_r22Entry_ok:TabOk Tryz.prog S tab_r22Entry:=⟨r22Entry.ok,by kernel_rfl,tab_scBackOff_ok⟩
end Go.Aw.W
