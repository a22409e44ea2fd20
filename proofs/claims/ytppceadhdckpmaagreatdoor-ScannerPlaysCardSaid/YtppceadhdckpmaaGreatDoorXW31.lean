/- Contracts of the seat (printed by ct.py). -/
import Derived.Test.YtppceadhdckpmaaGreatDoorXW25
set_option linter.unusedVariables false
set_option linter.unusedSimpArgs false
set_option maxRecDepth 20000
set_option maxHeartbeats 1000000
namespace Go.Aw.W
open Go Go.Aw Go.Proofs
attribute [local irreducible] evCode evFun evOps evDs evOne ctxK loopK loopB subC bodyC headS okH roundK
attribute [local irreducible] pFind r9Find pCheck r19Check scHear scStart scMiss scStop scChannel scOwn r22Start lives22 own22 copied22
def r22For.res (r:Bool): AV El:=.v (.bool (r))
def r22For.news (r:Bool): List (AObj El):= []
def r22For.L (e v:Bool): Prop:=r22For.res e=r22For.res v∧r22For.news e=r22For.news v
def r22For (s:Scanner) (p:AdvPDU): Bool:=cond (r19Check p != (0:Int)) (false) (cond (p.Kind==(1:Int)) (p.Target.Kind==s.Params.Own.Kind && p.Target.Bits==s.Params.Own.Bits) (cond (p.Kind==(4:Int)) (p.Sender.Kind==s.Wait.Kind && p.Sender.Bits==s.Wait.Bits) (bif bif p.Kind==(0:Int) then true else p.Kind==(2:Int) then true else p.Kind==(6:Int))))
def r22For.dec (cs:List (AV El)): Option (Scanner×AdvPDU):= popA Scanner.dec cs fun a0 c0=>popA AdvPDU.dec c0 fun a1 c1=>popE c1 (a0,a1)
def r22For.enc (x:Scanner×AdvPDU): List (AV El):= [Scanner.av x.1,AdvPDU.av x.2]
theorem r22For.dec_ok : ∀cs x,r22For.dec cs=some x→Imp (S:=S) cs (r22For.enc x):= by
 intro cs x h
 unfold r22For.dec at h
 obtain ⟨a0,c0,h0,k0⟩:= popA_some (S:=S) Scanner.dec_ok h
 obtain ⟨a1,c1,h1,k1⟩:= popA_some (S:=S) AdvPDU.dec_ok h0
 obtain ⟨rfl,rfl⟩:= popE_some (S:=S) h1
 exact (k0 _ (k1 _ (.refl _)))
def r22For.nf (s:Scanner) (p:AdvPDU) (v:Bool): Prop:=cond (r19Check p != (0:Int)) (r22For.L (false) v) (cond (p.Kind==(1:Int)) (r22For.L (p.Target.Kind==s.Params.Own.Kind && p.Target.Bits==s.Params.Own.Bits) v) (cond (p.Kind==(4:Int)) (r22For.L (p.Sender.Kind==s.Wait.Kind && p.Sender.Bits==s.Wait.Bits) v) (Ob (o3 (!p.Kind==(0:Int)))∧(Ob (o3 (!p.Kind==(0:Int)))∧(Ob (on (p.Kind==(0:Int)))∧(Ob (o3 (!bif p.Kind==(0:Int) then true else p.Kind==(2:Int)))∧(Ob (o3 (!bif p.Kind==(0:Int) then true else p.Kind==(2:Int)))∧(Ob (on (bif p.Kind==(0:Int) then true else p.Kind==(2:Int)))∧(r22For.L (bif bif p.Kind==(0:Int) then true else p.Kind==(2:Int) then true else p.Kind==(6:Int)) v)))))))))
theorem r22For.nf_ok (s:Scanner) (p:AdvPDU) (v:Bool): evFun (mkCxI Tryz.prog S tab_lives22 0 true sum_fIdx) 4 31 [Scanner.av s,AdvPDU.av p] [] (fun r' H'=>Gives r' H' (r22For.res v) (r22For.news v))= r22For.nf s p v:=by kernel_rfl
theorem r22For.key (s:Scanner) (p:AdvPDU) (v:Bool) (hv:v=r22For s p): r22For.nf s p v:=by
 unfold r22For at hv
 unfold r22For.nf
 revert hv;refine by_cond2 (fun hb hv=>?_) (fun hb hv=>?_)
 ·subst hv;exact ⟨rfl,rfl⟩
 ·revert hv;refine by_cond2 (fun hb hv=>?_) (fun hb hv=>?_)
  ·subst hv;exact ⟨rfl,rfl⟩
  ·revert hv;refine by_cond2 (fun hb hv=>?_) (fun hb hv=>?_)
   ·subst hv;exact ⟨rfl,rfl⟩
   ·refine ⟨⟨o3_ok _⟩, ?_⟩
    refine ⟨⟨o3_ok _⟩, ?_⟩
    refine ⟨⟨on_ok _⟩, ?_⟩
    iterate 2 refine ⟨⟨o3_ok _⟩, ?_⟩
    refine ⟨⟨on_ok _⟩, ?_⟩
    subst hv;exact ⟨rfl,rfl⟩
def r22For.ct:Ct El:=ctOf r22For.dec (fun _=>[]) (fun x=>r22For.res (r22For x.1 x.2)) (fun x=>r22For.news (r22For x.1 x.2))
theorem r22For.ok:CtOk (mkCx Tryz.prog S [] 0) 31 r22For.ct:=ct_mk (C:=(mkCxI Tryz.prog S tab_lives22 0 true sum_fIdx)) (mkCxI_ok sigOk mixed tab_lives22_ok 0 true sum_fIdx_ok) r22For.dec_ok (fun x=>rfl) 4 (fun x _=>(r22For.nf_ok x.1 x.2 _).mpr (r22For.key x.1 x.2 _ rfl))
def tab_r22For:List (FuncId×Ct El):= (31,r22For.ct):: tab_lives22
theorem tab_r22For_ok:TabOk Tryz.prog S tab_r22For:=⟨r22For.ok,by kernel_rfl,tab_lives22_ok⟩
def r22Passes.res (r:Bool): AV El:=.v (.bool (r))
def r22Passes.news (r:Bool): List (AObj El):= []
def r22Passes.L (e v:Bool): Prop:=r22Passes.res e=r22Passes.res v∧r22Passes.news e=r22Passes.news v
def r22Passes (p:ScanParams) (sender:Address): Bool:=bif p.Policy==(0:Int) then true else r20Has p.Accept p.Identities sender
def r22Passes.dec (cs:List (AV El)): Option (ScanParams×Address):= popA ScanParams.dec cs fun a0 c0=>popA Address.dec c0 fun a1 c1=>popE c1 (a0,a1)
def r22Passes.enc (x:ScanParams×Address): List (AV El):= [ScanParams.av x.1,Address.av x.2]
theorem r22Passes.dec_ok : ∀cs x,r22Passes.dec cs=some x→Imp (S:=S) cs (r22Passes.enc x):= by
 intro cs x h
 unfold r22Passes.dec at h
 obtain ⟨a0,c0,h0,k0⟩:= popA_some (S:=S) ScanParams.dec_ok h
 obtain ⟨a1,c1,h1,k1⟩:= popA_some (S:=S) Address.dec_ok h0
 obtain ⟨rfl,rfl⟩:= popE_some (S:=S) h1
 exact (k0 _ (k1 _ (.refl _)))
def r22Passes.nf (p:ScanParams) (sender:Address) (v:Bool): Prop:=Ob (o3 (!p.Policy==(0:Int)))∧(Ob (o3 (!p.Policy==(0:Int)))∧(Ob (o3 (!p.Policy==(0:Int)))∧(Ob (o3 (!p.Policy==(0:Int)))∧(Ob (o3 (!p.Policy==(0:Int)))∧(Ob (on (p.Policy==(0:Int)))∧(r22Passes.L (bif p.Policy==(0:Int) then true else r20Has p.Accept p.Identities sender) v))))))
theorem r22Passes.nf_ok (p:ScanParams) (sender:Address) (v:Bool): evFun (mkCxI Tryz.prog S tab_lives22 0 true sum_fIdx) 4 33 [ScanParams.av p,Address.av sender] [] (fun r' H'=>Gives r' H' (r22Passes.res v) (r22Passes.news v))= r22Passes.nf p sender v:=by kernel_rfl
theorem r22Passes.key (p:ScanParams) (sender:Address) (v:Bool) (hv:v=r22Passes p sender): r22Passes.nf p sender v:=by
 unfold r22Passes at hv
 unfold r22Passes.nf
 iterate 5 refine ⟨⟨o3_ok _⟩, ?_⟩
 refine ⟨⟨on_ok _⟩, ?_⟩
 subst hv;exact ⟨rfl,rfl⟩
def r22Passes.ct:Ct El:=ctOf r22Passes.dec (fun _=>[]) (fun x=>r22Passes.res (r22Passes x.1 x.2)) (fun x=>r22Passes.news (r22Passes x.1 x.2))
theorem r22Passes.ok:CtOk (mkCx Tryz.prog S [] 0) 33 r22Passes.ct:=ct_mk (C:=(mkCxI Tryz.prog S tab_lives22 0 true sum_fIdx)) (mkCxI_ok sigOk mixed tab_lives22_ok 0 true sum_fIdx_ok) r22Passes.dec_ok (fun x=>rfl) 4 (fun x _=>(r22Passes.nf_ok x.1 x.2 _).mpr (r22Passes.key x.1 x.2 _ rfl))
def tab_r22Passes:List (FuncId×Ct El):= (33,r22Passes.ct):: tab_r22For
theorem tab_r22Passes_ok:TabOk Tryz.prog S tab_r22Passes:=⟨r22Passes.ok,by kernel_rfl,tab_r22For_ok⟩
def r22Back.res (r:Scanner): AV El:=Scanner.av (r)
def r22Back.news (r:Scanner): List (AObj El):= []
def r22Back.L (e v:Scanner): Prop:=r22Back.res e=r22Back.res v∧r22Back.news e=r22Back.news v
def r22Back (s:Scanner): Scanner:=(⟨⟨(s.Params.Interval),(s.Params.Window),(s.Params.Active),(s.Params.Policy),(s.Params.Accept),(s.Params.Identities),⟨(s.Params.Own.Kind),(s.Params.Own.Bits)⟩,(s.Params.Unique)⟩,(s.On),(s.Start),(s.Upper),(IntKind.wrap IntKind.i64 ((1:Int)+ IntKind.wrap IntKind.i64 (Int.tmod (r6Derive s.Seed {data:=#[(98:UInt8),(97:UInt8),(99:UInt8),(107:UInt8),(111:UInt8),(102:UInt8),(102:UInt8)]: ByteArray} []) (IntKind.wrap IntKind.u64 (maxI (1:Int) s.Upper))))),(s.Fails),(s.Wins),⟨(s.Wait.Kind),(s.Wait.Bits)⟩,(s.Seen),(r6Derive s.Seed {data:=#[(98:UInt8),(97:UInt8),(99:UInt8),(107:UInt8),(111:UInt8),(102:UInt8),(102:UInt8)]: ByteArray} [])⟩: Scanner)
def r22Back.dec (cs:List (AV El)): Option (Scanner):= popA Scanner.dec cs fun a0 c0=>popE c0 a0
def r22Back.enc (x:Scanner): List (AV El):= [Scanner.av x]
theorem r22Back.dec_ok : ∀cs x,r22Back.dec cs=some x→Imp (S:=S) cs (r22Back.enc x):= by
 intro cs x h
 unfold r22Back.dec at h
 obtain ⟨a0,c0,h0,k0⟩:= popA_some (S:=S) Scanner.dec_ok h
 obtain ⟨rfl,rfl⟩:= popE_some (S:=S) h0
 exact (k0 _ (.refl _))
def r22Back.nf (s:Scanner) (v:Scanner): Prop:=Ob (List.length (bytesI {data:=#[(98:UInt8),(97:UInt8),(99:UInt8),(107:UInt8),(111:UInt8),(102:UInt8),(102:UInt8)]: ByteArray})≤(1099511627776:Nat)∧(0:Nat)≤(1099511627776:Nat))∧(Ob (IntKind.wrap IntKind.u64 (maxI (1:Int) s.Upper)≠(0:Int))∧(r22Back.L ((⟨⟨(s.Params.Interval),(s.Params.Window),(s.Params.Active),(s.Params.Policy),(s.Params.Accept),(s.Params.Identities),⟨(s.Params.Own.Kind),(s.Params.Own.Bits)⟩,(s.Params.Unique)⟩,(s.On),(s.Start),(s.Upper),(IntKind.wrap IntKind.i64 ((1:Int)+ IntKind.wrap IntKind.i64 (Int.tmod (r6Derive s.Seed {data:=#[(98:UInt8),(97:UInt8),(99:UInt8),(107:UInt8),(111:UInt8),(102:UInt8),(102:UInt8)]: ByteArray} []) (IntKind.wrap IntKind.u64 (maxI (1:Int) s.Upper))))),(s.Fails),(s.Wins),⟨(s.Wait.Kind),(s.Wait.Bits)⟩,(s.Seen),(r6Derive s.Seed {data:=#[(98:UInt8),(97:UInt8),(99:UInt8),(107:UInt8),(111:UInt8),(102:UInt8),(102:UInt8)]: ByteArray} [])⟩: Scanner)) v))
theorem r22Back.nf_ok (s:Scanner) (v:Scanner): evFun (mkCxI Tryz.prog S tab_lives22 0 true sum_fIdx) 4 38 [Scanner.av s] [] (fun r' H'=>Gives r' H' (r22Back.res v) (r22Back.news v))= r22Back.nf s v:=by kernel_rfl
theorem r22Back.key (s:Scanner) (hp:s.Upper≤9223372036854775807) (v:Scanner) (hv:v=r22Back s): r22Back.nf s v:=by
 unfold r22Back at hv
 unfold r22Back.nf
 refine ⟨⟨by (try clear hv);(try clear q1 q2);(try clear hk);(first | omega | ((try simp only [decide_eq_true_eq,decide_eq_false_iff_not,Bool.not_eq_true,Bool.not_eq_false,Bool.and_eq_true,Bool.or_eq_true,Bool.not_not,cond_and,cond_or,List.length_append,List.length_cons,List.length_nil] at *);(first | done | ((first | omega | (intros;(try simp only [Bool.not_not,cond_and,cond_or,Bool.and_eq_true,decide_eq_true_eq] at *);(refine ⟨?_,pFind_lt _ _⟩;(first | omega | (simp_all;done))))| (intros;(try simp only [Bool.not_not,cond_and,cond_or,Bool.and_eq_true,decide_eq_true_eq] at *);(refine ⟨?_,r9Find_lt _ _⟩;(first | omega | (simp_all;done))))| (intros;(try simp only [Bool.not_not,cond_and,cond_or,Bool.and_eq_true,decide_eq_true_eq] at *);(exact ⟨by decide,by simp⟩))| (intros;(try simp only [Bool.not_not,cond_and,cond_or,Bool.and_eq_true,decide_eq_true_eq] at *);(rw [wu64 _ (by unfold maxI;split <;> omega) (by unfold maxI;split <;> omega)];unfold maxI;split <;> omega))| (intros;(try simp only [Bool.not_not,cond_and,cond_or,Bool.and_eq_true,decide_eq_true_eq] at *);(simp_all [Bool.not_not];omega))| (intros;(try simp only [Bool.not_not,cond_and,cond_or,Bool.and_eq_true,decide_eq_true_eq] at *);(exact band_nn rfl _ _))| (intros;(try simp only [Bool.not_not,cond_and,cond_or,Bool.and_eq_true,decide_eq_true_eq] at *);(exact (wu64s _).2.1))| (intros;(try simp only [Bool.not_not,cond_and,cond_or,Bool.and_eq_true,decide_eq_true_eq] at *);(simp only [Bool.or_eq_false_iff,Bool.and_eq_false_iff,decide_eq_false_iff_not,decide_eq_true_eq,bne_iff_ne,beq_iff_eq,bne_eq_false_iff_eq,beq_eq_false_iff_ne,ne_eq,true_and] at *;omega))| (intros;(try simp only [Bool.not_not,cond_and,cond_or,Bool.and_eq_true,decide_eq_true_eq] at *);(simp only [List.length_drop,List.length_take,List.length_append,List.length_cons,List.length_nil] at *;omega))| (intros;omega)| (intros;simp only [Bool.not_not,cond_and,cond_or,Bool.and_eq_true,decide_eq_true_eq] at *;omega)| (intros;simp_all [Bool.not_not];done))))))⟩, ?_⟩
 refine ⟨⟨by (try clear hv);(try clear q1 q2);(try clear hk);(first | omega | ((try simp only [decide_eq_true_eq,decide_eq_false_iff_not,Bool.not_eq_true,Bool.not_eq_false,Bool.and_eq_true,Bool.or_eq_true,Bool.not_not,cond_and,cond_or,List.length_append,List.length_cons,List.length_nil] at *);(first | done | (have:=wu64s (maxI (1:Int) s.Upper);(first | omega | (intros;(try simp only [Bool.not_not,cond_and,cond_or,Bool.and_eq_true,decide_eq_true_eq] at *);(refine ⟨?_,pFind_lt _ _⟩;(first | omega | (simp_all;done))))| (intros;(try simp only [Bool.not_not,cond_and,cond_or,Bool.and_eq_true,decide_eq_true_eq] at *);(refine ⟨?_,r9Find_lt _ _⟩;(first | omega | (simp_all;done))))| (intros;(try simp only [Bool.not_not,cond_and,cond_or,Bool.and_eq_true,decide_eq_true_eq] at *);(exact ⟨by decide,by simp⟩))| (intros;(try simp only [Bool.not_not,cond_and,cond_or,Bool.and_eq_true,decide_eq_true_eq] at *);(rw [wu64 _ (by unfold maxI;split <;> omega) (by unfold maxI;split <;> omega)];unfold maxI;split <;> omega))| (intros;(try simp only [Bool.not_not,cond_and,cond_or,Bool.and_eq_true,decide_eq_true_eq] at *);(simp_all [Bool.not_not];omega))| (intros;(try simp only [Bool.not_not,cond_and,cond_or,Bool.and_eq_true,decide_eq_true_eq] at *);(exact band_nn rfl _ _))| (intros;(try simp only [Bool.not_not,cond_and,cond_or,Bool.and_eq_true,decide_eq_true_eq] at *);(exact (wu64s _).2.1))| (intros;(try simp only [Bool.not_not,cond_and,cond_or,Bool.and_eq_true,decide_eq_true_eq] at *);(simp only [Bool.or_eq_false_iff,Bool.and_eq_false_iff,decide_eq_false_iff_not,decide_eq_true_eq,bne_iff_ne,beq_iff_eq,bne_eq_false_iff_eq,beq_eq_false_iff_ne,ne_eq,true_and] at *;omega))| (intros;(try simp only [Bool.not_not,cond_and,cond_or,Bool.and_eq_true,decide_eq_true_eq] at *);(simp only [List.length_drop,List.length_take,List.length_append,List.length_cons,List.length_nil] at *;omega))| (intros;omega)| (intros;simp only [Bool.not_not,cond_and,cond_or,Bool.and_eq_true,decide_eq_true_eq] at *;omega)| (intros;simp_all [Bool.not_not];done))))))⟩, ?_⟩
 subst hv;exact ⟨rfl,rfl⟩
def r22Back.ct:Ct El:=ctOf r22Back.dec (fun x=>[x.Upper≤9223372036854775807]) (fun x=>r22Back.res (r22Back x)) (fun x=>r22Back.news (r22Back x))
theorem r22Back.ok:CtOk (mkCx Tryz.prog S [] 0) 38 r22Back.ct:=ct_mk (C:=(mkCxI Tryz.prog S tab_lives22 0 true sum_fIdx)) (mkCxI_ok sigOk mixed tab_lives22_ok 0 true sum_fIdx_ok) r22Back.dec_ok (fun x=>rfl) 4 (fun x hp=>(r22Back.nf_ok x _).mpr (r22Back.key x (hp _ (List.mem_singleton.2 rfl)) _ rfl))
def tab_r22Back:List (FuncId×Ct El):= (38,r22Back.ct):: tab_r22Passes
theorem tab_r22Back_ok:TabOk Tryz.prog S tab_r22Back:=⟨r22Back.ok,by kernel_rfl,tab_r22Passes_ok⟩
end Go.Aw.W
