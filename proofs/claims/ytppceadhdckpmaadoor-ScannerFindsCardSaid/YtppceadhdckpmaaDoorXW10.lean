import Derived.Test.YtppceadhdckpmaaDoorXW7
section
/- Contracts of the seat (printed by ct.py). -/
set_option linter.unusedVariables false
set_option linter.unusedSimpArgs false
set_option maxRecDepth 20000
set_option maxHeartbeats 1000000
namespace Go.Aw.W
open Go Go.Aw Go.Proofs
attribute [local irreducible] evCode evFun evOps evDs evOne ctxK loopK loopB subC bodyC headS okH roundK
def pHash.res (r:Int): AV El:=.v (.int .u64 (r))
def pHash.news (r:Int): List (AObj El):= []
def pHash.L (e v:Int): Prop:=pHash.res e=pHash.res v∧pHash.news e=pHash.news v
def pHash (irk:Int) (prand:Int): Int:=bandK IntKind.u64 (pDerive irk {data:=#[(114:UInt8),(112:UInt8),(97:UInt8)]: ByteArray} [prand]) (16777215:Int)
def pHash.dec (cs:List (AV El)): Option (Int×Int):= popI .u64 cs fun a0 c0=>popI .u64 c0 fun a1 c1=>popE c1 (a0,a1)
def pHash.enc (x:Int×Int): List (AV El):= [.v (.int .u64 x.1), .v (.int .u64 x.2)]
theorem pHash.dec_ok : ∀cs x,pHash.dec cs=some x→Imp (S:=S) cs (pHash.enc x):= by
 intro cs x h
 unfold pHash.dec at h
 obtain ⟨a0,c0,rfl,h0⟩:= popI_some (S:=S) h
 obtain ⟨a1,c1,rfl,h1⟩:= popI_some (S:=S) h0
 obtain ⟨rfl,rfl⟩:= popE_some (S:=S) h1
 exact (.cons (.cons (.refl _)))
def pHash.nf (irk:Int) (prand:Int) (v:Int): Prop:=Ob (List.length (bytesI {data:=#[(114:UInt8),(112:UInt8),(97:UInt8)]: ByteArray})≤(1099511627776:Nat)∧List.length [prand]≤(1099511627776:Nat))∧(pHash.L (bandK IntKind.u64 (pDerive irk {data:=#[(114:UInt8),(112:UInt8),(97:UInt8)]: ByteArray} [prand]) 16777215) v)
theorem pHash.nf_ok (irk:Int) (prand:Int) (v:Int): evFun (mkCx Tryd.prog S tab_pDerive 0) 4 120 [.v (.int .u64 irk), .v (.int .u64 prand)] [] (fun r' H'=>Gives r' H' (pHash.res v) (pHash.news v))= pHash.nf irk prand v:=by kernel_rfl
theorem pHash.key (irk:Int) (prand:Int) (v:Int) (hv:v=pHash irk prand): pHash.nf irk prand v:=by
 unfold pHash at hv
 unfold pHash.nf
 refine ⟨⟨by (try clear hv);(try clear q1 q2);(try clear hk);(((try simp only [decide_eq_true_eq,decide_eq_false_iff_not,Bool.not_eq_true,Bool.not_eq_false,Bool.and_eq_true,Bool.or_eq_true,Bool.not_not,cond_and,cond_or,List.length_append,List.length_cons,List.length_nil] at *);(first | done | ((first | omega | (intros;(try simp only [Bool.not_not,cond_and,cond_or,Bool.and_eq_true,decide_eq_true_eq] at *);(exact ⟨by decide,by simp⟩))| (intros;(try simp only [Bool.not_not,cond_and,cond_or,Bool.and_eq_true,decide_eq_true_eq] at *);(exact pDerive_len _ _ (by omega) (by omega)))| (intros;(try simp only [Bool.not_not,cond_and,cond_or,Bool.and_eq_true,decide_eq_true_eq] at *);(exact pDerive_len2 _ _ (by omega) (by omega)))| (intros;(try simp only [Bool.not_not,cond_and,cond_or,Bool.and_eq_true,decide_eq_true_eq] at *);(exact band_nn rfl _ _))| (intros;(try simp only [Bool.not_not,cond_and,cond_or,Bool.and_eq_true,decide_eq_true_eq] at *);(exact (wu64s _).2.1))| (intros;(try simp only [Bool.not_not,cond_and,cond_or,Bool.and_eq_true,decide_eq_true_eq] at *);(simp only [Bool.or_eq_false_iff,Bool.and_eq_false_iff,decide_eq_false_iff_not,decide_eq_true_eq,bne_iff_ne,beq_iff_eq,bne_eq_false_iff_eq,beq_eq_false_iff_ne,ne_eq,true_and] at *;omega))| (intros;(try simp only [Bool.not_not,cond_and,cond_or,Bool.and_eq_true,decide_eq_true_eq] at *);(simp only [List.length_drop,List.length_take,List.length_append,List.length_cons,List.length_nil] at *;omega))| (intros;omega)| (intros;simp only [sized_iff,Bool.not_not,cond_and,cond_or,Bool.and_eq_true,decide_eq_true_eq] at *;omega)| (intros;simp_all [sized_iff,Bool.not_not];done))))))⟩, ?_⟩
 subst hv;exact ⟨rfl,rfl⟩
def pHash.ct:Ct El:=ctOf pHash.dec (fun _=>[]) (fun x=>pHash.res (pHash x.1 x.2)) (fun x=>pHash.news (pHash x.1 x.2))
theorem pHash.ok:CtOk (mkCx Tryd.prog S [] 0) 120 pHash.ct:=ct_mk (C:=(mkCx Tryd.prog S tab_pDerive 0)) (mkCx_ok sigOk mixed tab_pDerive_ok 0) pHash.dec_ok (fun x=>rfl) 4 (fun x _=>(pHash.nf_ok x.1 x.2 _).mpr (pHash.key x.1 x.2 _ rfl))
def tab_pHash:List (FuncId×Ct El):= (120,pHash.ct):: tab_pDerive
theorem tab_pHash_ok:TabOk Tryd.prog S tab_pHash:=⟨pHash.ok,by kernel_rfl,tab_pDerive_ok⟩
def r9Hash.res (r:Int): AV El:=.v (.int .u64 (r))
def r9Hash.news (r:Int): List (AObj El):= []
def r9Hash.L (e v:Int): Prop:=r9Hash.res e=r9Hash.res v∧r9Hash.news e=r9Hash.news v
def r9Hash (irk:Int) (prand:Int): Int:=Int.tmod (r6Derive irk {data:=#[(114:UInt8),(112:UInt8),(97:UInt8)]: ByteArray} [prand]) (16777216:Int)
def r9Hash.dec (cs:List (AV El)): Option (Int×Int):= popI .u64 cs fun a0 c0=>popI .u64 c0 fun a1 c1=>popE c1 (a0,a1)
def r9Hash.enc (x:Int×Int): List (AV El):= [.v (.int .u64 x.1), .v (.int .u64 x.2)]
theorem r9Hash.dec_ok : ∀cs x,r9Hash.dec cs=some x→Imp (S:=S) cs (r9Hash.enc x):= by
 intro cs x h
 unfold r9Hash.dec at h
 obtain ⟨a0,c0,rfl,h0⟩:= popI_some (S:=S) h
 obtain ⟨a1,c1,rfl,h1⟩:= popI_some (S:=S) h0
 obtain ⟨rfl,rfl⟩:= popE_some (S:=S) h1
 exact (.cons (.cons (.refl _)))
def r9Hash.nf (irk:Int) (prand:Int) (v:Int): Prop:=Ob (List.length (bytesI {data:=#[(114:UInt8),(112:UInt8),(97:UInt8)]: ByteArray})≤(1099511627776:Nat)∧List.length [prand]≤(1099511627776:Nat))∧(Ob ((16777216:Int)≠(0:Int))∧(r9Hash.L (Int.tmod (r6Derive irk {data:=#[(114:UInt8),(112:UInt8),(97:UInt8)]: ByteArray} [prand]) 16777216) v))
theorem r9Hash.nf_ok (irk:Int) (prand:Int) (v:Int): evFun (mkCx Tryd.prog S tab_pDerive 0) 4 121 [.v (.int .u64 irk), .v (.int .u64 prand)] [] (fun r' H'=>Gives r' H' (r9Hash.res v) (r9Hash.news v))= r9Hash.nf irk prand v:=by kernel_rfl
theorem r9Hash.key (irk:Int) (prand:Int) (v:Int) (hv:v=r9Hash irk prand): r9Hash.nf irk prand v:=by
 unfold r9Hash at hv
 unfold r9Hash.nf
 refine ⟨⟨?_⟩, ?_⟩;rotate_left
 refine ⟨⟨?_⟩, ?_⟩;rotate_left
 subst hv;exact ⟨rfl,rfl⟩
 all_goals ((try clear hv);(try clear q1 q2);(try clear hk);(first | omega | ((try simp only [decide_eq_true_eq,decide_eq_false_iff_not,Bool.not_eq_true,Bool.not_eq_false,Bool.and_eq_true,Bool.or_eq_true,Bool.not_not,cond_and,cond_or,List.length_append,List.length_cons,List.length_nil] at *);(first | done | ((first | omega | (intros;(try simp only [Bool.not_not,cond_and,cond_or,Bool.and_eq_true,decide_eq_true_eq] at *);(exact ⟨by decide,by simp⟩))| (intros;(try simp only [Bool.not_not,cond_and,cond_or,Bool.and_eq_true,decide_eq_true_eq] at *);(exact pDerive_len _ _ (by omega) (by omega)))| (intros;(try simp only [Bool.not_not,cond_and,cond_or,Bool.and_eq_true,decide_eq_true_eq] at *);(exact pDerive_len2 _ _ (by omega) (by omega)))| (intros;(try simp only [Bool.not_not,cond_and,cond_or,Bool.and_eq_true,decide_eq_true_eq] at *);(exact band_nn rfl _ _))| (intros;(try simp only [Bool.not_not,cond_and,cond_or,Bool.and_eq_true,decide_eq_true_eq] at *);(exact (wu64s _).2.1))| (intros;(try simp only [Bool.not_not,cond_and,cond_or,Bool.and_eq_true,decide_eq_true_eq] at *);(simp only [Bool.or_eq_false_iff,Bool.and_eq_false_iff,decide_eq_false_iff_not,decide_eq_true_eq,bne_iff_ne,beq_iff_eq,bne_eq_false_iff_eq,beq_eq_false_iff_ne,ne_eq,true_and] at *;omega))| (intros;(try simp only [Bool.not_not,cond_and,cond_or,Bool.and_eq_true,decide_eq_true_eq] at *);(simp only [List.length_drop,List.length_take,List.length_append,List.length_cons,List.length_nil] at *;omega))| (intros;omega)| (intros;simp only [sized_iff,Bool.not_not,cond_and,cond_or,Bool.and_eq_true,decide_eq_true_eq] at *;omega)| (intros;simp_all [sized_iff,Bool.not_not];done)))))))
def r9Hash.ct:Ct El:=ctOf r9Hash.dec (fun _=>[]) (fun x=>r9Hash.res (r9Hash x.1 x.2)) (fun x=>r9Hash.news (r9Hash x.1 x.2))
theorem r9Hash.ok:CtOk (mkCx Tryd.prog S [] 0) 121 r9Hash.ct:=ct_mk (C:=(mkCx Tryd.prog S tab_pDerive 0)) (mkCx_ok sigOk mixed tab_pDerive_ok 0) r9Hash.dec_ok (fun x=>rfl) 4 (fun x _=>(r9Hash.nf_ok x.1 x.2 _).mpr (r9Hash.key x.1 x.2 _ rfl))
def tab_r9Hash:List (FuncId×Ct El):= (121,r9Hash.ct):: tab_pHash
theorem tab_r9Hash_ok:TabOk Tryd.prog S tab_r9Hash:=⟨r9Hash.ok,by kernel_rfl,tab_pHash_ok⟩
end Go.Aw.W
end
section
/- Contracts of the seat (printed by ct.py). -/
set_option linter.unusedVariables false
set_option linter.unusedSimpArgs false
set_option maxRecDepth 20000
set_option maxHeartbeats 1000000
namespace Go.Aw.W
open Go Go.Aw Go.Proofs
attribute [local irreducible] evCode evFun evOps evDs evOne ctxK loopK loopB subC bodyC headS okH roundK
def pResolves.res (r:Bool): AV El:=.v (.bool (r))
def pResolves.news (r:Bool): List (AObj El):= []
def pResolves.L (e v:Bool): Prop:=pResolves.res e=pResolves.res v∧pResolves.news e=pResolves.news v
def pResolves (irk:Int) (a:Address): Bool:=cond (bif bif irk==(0:Int) then true else a.Kind != (3:Int) then true else aCheck a != (0:Int)) (false) (bandK IntKind.u64 a.Bits (16777215:Int)== pHash irk (bandK IntKind.u64 (shrK IntKind.u64 a.Bits (24:Int)) (4194303:Int)))
def pResolves.dec (cs:List (AV El)): Option (Int×Address):= popI .u64 cs fun a0 c0=>popA Address.dec c0 fun a1 c1=>popE c1 (a0,a1)
def pResolves.enc (x:Int×Address): List (AV El):= [.v (.int .u64 x.1),Address.av x.2]
theorem pResolves.dec_ok : ∀cs x,pResolves.dec cs=some x→Imp (S:=S) cs (pResolves.enc x):= by
 intro cs x h
 unfold pResolves.dec at h
 obtain ⟨a0,c0,rfl,h0⟩:= popI_some (S:=S) h
 obtain ⟨a1,c1,h1,k1⟩:= popA_some (S:=S) Address.dec_ok h0
 obtain ⟨rfl,rfl⟩:= popE_some (S:=S) h1
 exact (.cons (k1 _ (.refl _)))
def pResolves.nf (irk:Int) (a:Address) (v:Bool): Prop:=Ob (o3 (!irk==0))∧(Ob (o3 (!irk==0))∧(Ob (on (irk==0))∧(Ob (o3 (!bif irk==0 then true else a.Kind != 3))∧(Ob (o3 (!bif irk==0 then true else a.Kind != 3))∧(Ob (on (bif irk==0 then true else a.Kind != 3))∧(cond (bif bif irk==0 then true else a.Kind != 3 then true else aCheck a != 0) (pResolves.L (false) v) (Ob ((0:Int)≤(24:Int))∧(pResolves.L (bandK IntKind.u64 a.Bits 16777215==pHash irk (bandK IntKind.u64 (shrK IntKind.u64 a.Bits 24) 4194303)) v))))))))
theorem pResolves.nf_ok (irk:Int) (a:Address) (v:Bool): evFun (mkCx Tryd.prog S tab_r9Hash 0) 4 107 [.v (.int .u64 irk),Address.av a] [] (fun r' H'=>Gives r' H' (pResolves.res v) (pResolves.news v))= pResolves.nf irk a v:=by kernel_rfl
theorem pResolves.key (irk:Int) (a:Address) (v:Bool) (hv:v=pResolves irk a): pResolves.nf irk a v:=by
 unfold pResolves at hv
 unfold pResolves.nf
 iterate 2 refine ⟨⟨o3_ok _⟩, ?_⟩
 refine ⟨⟨on_ok _⟩, ?_⟩
 iterate 2 refine ⟨⟨o3_ok _⟩, ?_⟩
 refine ⟨⟨on_ok _⟩, ?_⟩
 revert hv;refine by_cond2 (fun hb hv=>?_) (fun hb hv=>?_)
 ·subst hv;exact ⟨rfl,rfl⟩
 ·refine ⟨⟨by (try clear hv);(try clear q1 q2);(try clear hk);(omega)⟩, ?_⟩
  subst hv;exact ⟨rfl,rfl⟩
def pResolves.ct:Ct El:=ctOf pResolves.dec (fun _=>[]) (fun x=>pResolves.res (pResolves x.1 x.2)) (fun x=>pResolves.news (pResolves x.1 x.2))
theorem pResolves.ok:CtOk (mkCx Tryd.prog S [] 0) 107 pResolves.ct:=ct_mk (C:=(mkCx Tryd.prog S tab_r9Hash 0)) (mkCx_ok sigOk mixed tab_r9Hash_ok 0) pResolves.dec_ok (fun x=>rfl) 4 (fun x _=>(pResolves.nf_ok x.1 x.2 _).mpr (pResolves.key x.1 x.2 _ rfl))
def tab_pResolves:List (FuncId×Ct El):= (107,pResolves.ct):: tab_r9Hash
theorem tab_pResolves_ok:TabOk Tryd.prog S tab_pResolves:=⟨pResolves.ok,by kernel_rfl,tab_r9Hash_ok⟩
def r9Resolves.res (r:Bool): AV El:=.v (.bool (r))
def r9Resolves.news (r:Bool): List (AObj El):= []
def r9Resolves.L (e v:Bool): Prop:=r9Resolves.res e=r9Resolves.res v∧r9Resolves.news e=r9Resolves.news v
def r9Resolves (irk:Int) (a:Address): Bool:=cond (bif bif irk==0 then true else a.Kind != 3 then true else r8Check a != 0) (false) (Int.tmod a.Bits 16777216==r9Hash irk (Int.tmod (IntKind.wrap IntKind.u64 (Int.tdiv a.Bits 16777216)) 4194304))
def r9Resolves.dec (cs:List (AV El)): Option (Int×Address):= popI .u64 cs fun a0 c0=>popA Address.dec c0 fun a1 c1=>popE c1 (a0,a1)
def r9Resolves.enc (x:Int×Address): List (AV El):= [.v (.int .u64 x.1),Address.av x.2]
theorem r9Resolves.dec_ok : ∀cs x,r9Resolves.dec cs=some x→Imp (S:=S) cs (r9Resolves.enc x):= by
 intro cs x h
 unfold r9Resolves.dec at h
 obtain ⟨a0,c0,rfl,h0⟩:= popI_some (S:=S) h
 obtain ⟨a1,c1,h1,k1⟩:= popA_some (S:=S) Address.dec_ok h0
 obtain ⟨rfl,rfl⟩:= popE_some (S:=S) h1
 exact (.cons (k1 _ (.refl _)))
def r9Resolves.nf (irk:Int) (a:Address) (v:Bool): Prop:=Ob (o3 (!irk==0))∧(Ob (o3 (!irk==0))∧(Ob (on (irk==0))∧(Ob (o3 (!bif irk==0 then true else a.Kind != 3))∧(Ob (o3 (!bif irk==0 then true else a.Kind != 3))∧(Ob (on (bif irk==0 then true else a.Kind != 3))∧(cond (bif bif irk==0 then true else a.Kind != 3 then true else r8Check a != 0) (r9Resolves.L (false) v) (Ob ((16777216:Int)≠(0:Int))∧(Ob ((16777216:Int)≠(0:Int))∧(Ob ((4194304:Int)≠(0:Int))∧(r9Resolves.L (Int.tmod a.Bits 16777216==r9Hash irk (Int.tmod (IntKind.wrap IntKind.u64 (Int.tdiv a.Bits 16777216)) 4194304)) v))))))))))
theorem r9Resolves.nf_ok (irk:Int) (a:Address) (v:Bool): evFun (mkCx Tryd.prog S tab_r9Hash 0) 4 108 [.v (.int .u64 irk),Address.av a] [] (fun r' H'=>Gives r' H' (r9Resolves.res v) (r9Resolves.news v))= r9Resolves.nf irk a v:=by kernel_rfl
theorem r9Resolves.key (irk:Int) (a:Address) (v:Bool) (hv:v=r9Resolves irk a): r9Resolves.nf irk a v:=by
 unfold r9Resolves at hv
 unfold r9Resolves.nf
 iterate 2 refine ⟨⟨o3_ok _⟩, ?_⟩
 refine ⟨⟨on_ok _⟩, ?_⟩
 iterate 2 refine ⟨⟨o3_ok _⟩, ?_⟩
 refine ⟨⟨on_ok _⟩, ?_⟩
 revert hv;refine by_cond2 (fun hb hv=>?_) (fun hb hv=>?_)
 subst hv;exact ⟨rfl,rfl⟩
 refine ⟨⟨?_⟩, ?_⟩;rotate_left
 refine ⟨⟨?_⟩, ?_⟩;rotate_left
 refine ⟨⟨?_⟩, ?_⟩;rotate_left
 subst hv;exact ⟨rfl,rfl⟩
 all_goals ((try clear hv);(try clear q1 q2);(try clear hk);(omega))
def r9Resolves.ct:Ct El:=ctOf r9Resolves.dec (fun _=>[]) (fun x=>r9Resolves.res (r9Resolves x.1 x.2)) (fun x=>r9Resolves.news (r9Resolves x.1 x.2))
theorem r9Resolves.ok:CtOk (mkCx Tryd.prog S [] 0) 108 r9Resolves.ct:=ct_mk (C:=(mkCx Tryd.prog S tab_r9Hash 0)) (mkCx_ok sigOk mixed tab_r9Hash_ok 0) r9Resolves.dec_ok (fun x=>rfl) 4 (fun x _=>(r9Resolves.nf_ok x.1 x.2 _).mpr (r9Resolves.key x.1 x.2 _ rfl))
def tab_r9Resolves:List (FuncId×Ct El):= (108,r9Resolves.ct):: tab_pResolves
theorem tab_r9Resolves_ok:TabOk Tryd.prog S tab_r9Resolves:=⟨r9Resolves.ok,by kernel_rfl,tab_pResolves_ok⟩
end Go.Aw.W
end
section
/- Contracts of the seat (printed by ct.py). -/
set_option linter.unusedVariables false
set_option linter.unusedSimpArgs false
set_option maxRecDepth 20000
set_option maxHeartbeats 1000000
namespace Go.Aw.W
open Go Go.Aw Go.Proofs
attribute [local irreducible] evCode evFun evOps evDs evOne ctxK loopK loopB subC bodyC headS okH roundK
def fIdx.Hs (list:List Identity) (a:Address): List (AObj El):= [.cells (Address.cells a)]
def fIdx.res (r:Int): AV El:=.v (.int .i64 (r))
def fIdx.news (r:Int): List (AObj El):= []
def fIdx.go (list:List Identity) (a:Address): Nat→Int→Int
 | 0,_=>0
 | n0+1,i=>cond (decide (i < (↑(List.length list): Int))) (cond (bif (List.getD list (Int.toNat i) Identity.zero).Address.Kind==a.Kind && (List.getD list (Int.toNat i) Identity.zero).Address.Bits==a.Bits then true else pResolves (List.getD list (Int.toNat i) Identity.zero).IRK a) (i) (fIdx.go list a n0 (IntKind.wrap IntKind.i64 (i+(1:Int))))) ((-1:Int))
def fIdx.hd (list:List Identity) (a:Address) (i:Int): St El:={lo:=1,slots:=[(8, .v (.int .i64 (i))),(7, .v (.int .i64 ((↑(List.length list): Int)))),(0, .sl 126 (list:List (El 126)) false),(1, .clo 106 [.ref 0 0])],n:=19,objs:=[.cells [.v (.int .i64 (a.Kind)), .v (.int .u64 (a.Bits))]]}
def fIdx.st (list:List Identity) (a:Address) (i:Int) (J:St El→Prop) (K:AV El→List (AObj El)→Prop): Prop:=cond (decide (i < (↑(List.length list): Int))) (Ob (0≤i∧i < (↑(List.length list): Int))∧(Ob (o3 (!((List.getD list (Int.toNat i) Identity.zero).Address.Kind==a.Kind && (List.getD list (Int.toNat i) Identity.zero).Address.Bits==a.Bits)))∧(Ob (o3 (!((List.getD list (Int.toNat i) Identity.zero).Address.Kind==a.Kind && (List.getD list (Int.toNat i) Identity.zero).Address.Bits==a.Bits)))∧(Ob (o3 (!((List.getD list (Int.toNat i) Identity.zero).Address.Kind==a.Kind && (List.getD list (Int.toNat i) Identity.zero).Address.Bits==a.Bits)))∧(Ob (on ((List.getD list (Int.toNat i) Identity.zero).Address.Kind==a.Kind && (List.getD list (Int.toNat i) Identity.zero).Address.Bits==a.Bits))∧(cond (bif (List.getD list (Int.toNat i) Identity.zero).Address.Kind==a.Kind && (List.getD list (Int.toNat i) Identity.zero).Address.Bits==a.Bits then true else pResolves (List.getD list (Int.toNat i) Identity.zero).IRK a) (K (.v (.int .i64 (i))) [.cells [.v (.int .i64 (a.Kind)), .v (.int .u64 (a.Bits))], .cells [.v (.int .i64 ((List.getD list (Int.toNat i) Identity.zero).Address.Kind)), .v (.int .u64 ((List.getD list (Int.toNat i) Identity.zero).Address.Bits)), .v (.int .u64 ((List.getD list (Int.toNat i) Identity.zero).IRK))]]) (J (fIdx.hd list a (IntKind.wrap IntKind.i64 (i+1)))))))))) (K (.v (.int .i64 ((-1)))) [.cells [.v (.int .i64 (a.Kind)), .v (.int .u64 (a.Bits))]])
theorem fIdx.st_ok (list:List Identity) (a:Address) (i:Int) (J:St El→Prop) (K:AV El→List (AObj El)→Prop): evCode (mkCxI Tryd.prog S tab_r9Resolves 0 false sum0) (evFun (mkCxI Tryd.prog S tab_r9Resolves 0 false sum0) 3) (loopB Tryd.prog 105 [true,false,true,false]) (fIdx.hd list a i) (roundK (C:=(mkCxI Tryd.prog S tab_r9Resolves 0 false sum0)) [8,7,0,1] [] J (loopK (mkCxI Tryd.prog S tab_r9Resolves 0 false sum0) 3 105 [true,false,true,false] K))= fIdx.st list a i J K:=by kernel_rfl
def fIdx.rng (list:List Identity) (a:Address) (n0:Nat) (i:Int): Prop:=0≤i∧i≤list.length∧(list.length - i).toNat < n0∧list.length≤9223372036854775807
theorem fIdx.lp (list:List Identity) (a:Address) (v:Int) (n0:Nat) (i:Int) (hv:v=fIdx.go list a n0 i) (h0:fIdx.rng list a n0 i) (st:St El) (q1:okH [8,7,0,1] [] st=true) (q2:headS [8,7,0,1] [] st=fIdx.hd list a i): evCode (mkCxI Tryd.prog S tab_r9Resolves 0 false sum0) (evFun (mkCxI Tryd.prog S tab_r9Resolves 0 false sum0) 3) (.loop (loopB Tryd.prog 105 [true,false,true,false])) st (loopK (mkCxI Tryd.prog S tab_r9Resolves 0 false sum0) 3 105 [true,false,true,false] (sumK [] 1 (fIdx.res v) (fIdx.Hs list a))):= by
 refine loop_ev (by kernel_rfl) (evFun_mono _ _) [8,7,0,1] [] (X:=Nat×Int) (fun x=>fIdx.hd list a x.2) (fun x=>x.1) (fun x=>fIdx.rng list a x.1 x.2∧v=fIdx.go list a x.1 x.2) (n0,i) ⟨q1,q2⟩ ⟨h0,hv⟩ ?_
 clear h0 hv q1 q2
 rintro ⟨n0,i⟩ ⟨hr,hv⟩
 dsimp only at hr hv
 cases n0 with
 | zero=>exact absurd hr (by unfold fIdx.rng;omega)
 | succ n0 =>
 unfold fIdx.rng at hr
 unfold fIdx.go at hv
 refine (fIdx.st_ok list a i _ _).mpr ?_
 unfold fIdx.st
 revert hv;refine by_cond2 (fun hb hv=>?_) (fun hb hv=>?_)
 ·refine ⟨⟨by (try clear hv);(try clear q1 q2);(try clear hk);(((try simp only [decide_eq_true_eq,decide_eq_false_iff_not,Bool.not_eq_true,Bool.not_eq_false,Bool.and_eq_true,Bool.or_eq_true,Bool.not_not,cond_and,cond_or,List.length_append,List.length_cons,List.length_nil] at *);(first | done | ((first | omega | (intros;(try simp only [Bool.not_not,cond_and,cond_or,Bool.and_eq_true,decide_eq_true_eq] at *);(exact ⟨by decide,by simp⟩))| (intros;(try simp only [Bool.not_not,cond_and,cond_or,Bool.and_eq_true,decide_eq_true_eq] at *);(exact pDerive_len _ _ (by omega) (by omega)))| (intros;(try simp only [Bool.not_not,cond_and,cond_or,Bool.and_eq_true,decide_eq_true_eq] at *);(exact pDerive_len2 _ _ (by omega) (by omega)))| (intros;(try simp only [Bool.not_not,cond_and,cond_or,Bool.and_eq_true,decide_eq_true_eq] at *);(exact band_nn rfl _ _))| (intros;(try simp only [Bool.not_not,cond_and,cond_or,Bool.and_eq_true,decide_eq_true_eq] at *);(exact (wu64s _).2.1))| (intros;(try simp only [Bool.not_not,cond_and,cond_or,Bool.and_eq_true,decide_eq_true_eq] at *);(simp only [Bool.or_eq_false_iff,Bool.and_eq_false_iff,decide_eq_false_iff_not,decide_eq_true_eq,bne_iff_ne,beq_iff_eq,bne_eq_false_iff_eq,beq_eq_false_iff_ne,ne_eq,true_and] at *;omega))| (intros;(try simp only [Bool.not_not,cond_and,cond_or,Bool.and_eq_true,decide_eq_true_eq] at *);(simp only [List.length_drop,List.length_take,List.length_append,List.length_cons,List.length_nil] at *;omega))| (intros;omega)| (intros;simp only [sized_iff,Bool.not_not,cond_and,cond_or,Bool.and_eq_true,decide_eq_true_eq] at *;omega)| (intros;simp_all [sized_iff,Bool.not_not];done))))))⟩, ?_⟩
  iterate 3 refine ⟨⟨o3_ok _⟩, ?_⟩
  refine ⟨⟨on_ok _⟩, ?_⟩
  revert hv;refine by_cond2 (fun hb hv=>?_) (fun hb hv=>?_)
  ·subst hv;exact And.intro (by kernel_rfl) (by kernel_rfl)
  ·exact ⟨(n0,(IntKind.wrap IntKind.i64 (i+(1:Int)))),(by kernel_rfl),Nat.lt_succ_self n0,(by dsimp only;unfold fIdx.rng;(try clear hv);(try clear q1 q2);(try clear hk);(try simp only [decide_eq_true_eq,decide_eq_false_iff_not,Bool.not_eq_true,Bool.not_eq_false,Bool.and_eq_true,Bool.or_eq_true,Bool.not_not,cond_and,cond_or,List.length_append,List.length_cons,List.length_nil] at *);have:=wi64s (i+(1:Int));omega),hv⟩
 ·subst hv;exact And.intro (by kernel_rfl) (by kernel_rfl)
def fIdx (list:List Identity) (a:Address): Int:=fIdx.go list a (list.length+1) ((0:Int))
def fIdx.nf (list:List Identity) (a:Address) (K:AV El→List (AObj El)→Prop): Prop:=(List.length list≤(9223372036854775807:Nat))→(evCode (mkCxI Tryd.prog S tab_r9Resolves 0 false sum0) (evFun (mkCxI Tryd.prog S tab_r9Resolves 0 false sum0) 3) (.loop (loopB Tryd.prog 105 [true,false,true,false])) ({lo:=1,slots:=[(8, .v (.int .i64 (0))),(7, .v (.int .i64 ((↑(List.length list): Int)))),(6, .sl 126 (list:List (El 126)) false),(4, .v (.int .i64 (0))),(0, .sl 126 (list:List (El 126)) false),(1, .clo 106 [.ref 0 0])],n:=19,objs:=[.cells [.v (.int .i64 (a.Kind)), .v (.int .u64 (a.Bits))]]}) (loopK (mkCxI Tryd.prog S tab_r9Resolves 0 false sum0) 3 105 [true,false,true,false] K))
theorem fIdx.nf_ok (list:List Identity) (a:Address) (K:AV El→List (AObj El)→Prop): evFun (mkCxI Tryd.prog S tab_r9Resolves 0 false sum0) 4 105 [.sl 126 (list:List (El 126)) false, .clo 106 (refsOf [(0,0)])] [.cells (Address.cells a)] K=fIdx.nf list a K:=by kernel_rfl
theorem fIdx.key (list:List Identity) (a:Address) (v:Int) (hv:v=fIdx list a): fIdx.nf list a (sumK [] 1 (fIdx.res v) (fIdx.Hs list a)):= by
 unfold fIdx at hv
 unfold fIdx.nf
 intro hlen
 exact fIdx.lp list a v _ _ hv (by unfold fIdx.rng;(try clear hv);(try clear q1 q2);(try clear hk);(omega)) _ (by kernel_rfl) (by kernel_rfl)
def fIdx.sdec (args:List (AV El)) (H:List (AObj El)): Option ((List Identity)×Address):= popS 126 args fun a0 c0=>popK 106 [(0,0)] c0 fun c1=>(popE c1 ()).bind fun _=>popHC Address.dec H fun a2 c2=>popHE c2 (a0,a2)
def fIdx.senc (x:(List Identity)×Address): List (AV El):= [.sl 126 ((x.1): List (El 126)) false, .clo 106 (refsOf [(0,0)])]
def fIdx.sencH (x:(List Identity)×Address): List (AObj El):= [.cells (Address.cells (x.2))]
theorem fIdx.sdec_ok : ∀args H x,fIdx.sdec args H=some x→Imp (S:=S) args (fIdx.senc x)∧HImp (S:=S) H (fIdx.sencH x):= by
 intro args H x h
 unfold fIdx.sdec at h
 obtain ⟨a0,c0,h0,k0⟩:= popS_some (S:=S) (t:=126) h
 obtain ⟨c1,rfl,h1⟩:= popK_some (El:=El) h0
 obtain ⟨u0,hu0,hb⟩:= Option.bind_eq_some_iff.1 h1
 obtain ⟨rfl,_⟩:= popE_some (S:=S) hu0
 obtain ⟨a2,c2,h2,k2⟩:= popHC_some (S:=S) Address.dec_ok hb
 obtain ⟨rfl,rfl⟩:= popHE_some (El:=El) h2
 exact ⟨(k0 _ (.cons (.refl _))),(k2 _ trivial)⟩
def sum_fIdx:SumI El:=sumOf 105 fIdx.sdec (fun _=>[]) (fun x=>fIdx.res (fIdx x.1 x.2)) (fun x=>fIdx.Hs x.1 x.2) sum0
theorem sum_fIdx_ok:SumTab Tryd.prog S sum_fIdx:=sum_mk (C:=(mkCxI Tryd.prog S tab_r9Resolves 0 false sum0)) (mkCxI_ok sigOk mixed tab_r9Resolves_ok 0 false (sum0_ok Tryd.prog S)) fIdx.sdec_ok (by kernel_rfl) 4 [] (fun x _=>(fIdx.nf_ok x.1 x.2 _).mpr (fIdx.key x.1 x.2 _ rfl)) (sum0_ok Tryd.prog S)
end Go.Aw.W
end
