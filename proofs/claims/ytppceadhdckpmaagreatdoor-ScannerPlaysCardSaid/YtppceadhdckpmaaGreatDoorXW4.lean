/- Contracts of the seat (printed by ct.py). -/
import Derived.Test.YtppceadhdckpmaaGreatDoorXW3
set_option linter.unusedVariables false
set_option linter.unusedSimpArgs false
set_option maxRecDepth 20000
set_option maxHeartbeats 1000000
namespace Go.Aw.W
open Go Go.Aw Go.Proofs
attribute [local irreducible] evCode evFun evOps evDs evOne ctxK loopK loopB subC bodyC headS okH roundK
theorem sumDrop (parts:List (List Int)) (i:Int) (h0:0≤i) (h:i < parts.length): ((parts.drop i.toNat).map List.length).sum=(parts.getD i.toNat []).length+((parts.drop (i+1).toNat).map List.length).sum:=by
 have h1:i.toNat < parts.length:=by omega
 have h2:(i+1).toNat=i.toNat+1:=by omega
 rw [List.drop_eq_getElem_cons h1,h2,List.map_cons,List.sum_cons]
 simp only [List.getD,List.getElem?_eq_getElem h1,Option.getD_some]
theorem aPart_nn (a:Address): 0≤(aPart a).2:=by unfold aPart;cases (a.Kind==(3:Int)) <;> simp
theorem prefixes_len:List.length prefixes=5:=rfl
def oJoin.res (r:(List Int)): AV El:=.gs 0
def oJoin.news (r:(List Int)): List (AObj El):= [.row 5 (r:List (El 5))]
def oJoin.L (e v:(List Int)): Prop:=oJoin.res e=oJoin.res v∧oJoin.news e=oJoin.news v
def oJoin.go (parts:List (List Int)): Nat→Int→(List Int)→(List Int)
 | 0,_,_=>[]
 | n0+1,i,out=>cond (decide (i < (↑(List.length parts): Int))) (oJoin.go parts n0 (IntKind.wrap IntKind.i64 (i+(1:Int))) (out ++ List.getD parts (Int.toNat i) [])) (out)
def oJoin.hd (parts:List (List Int)) (i:Int) (out:List Int): St El:={lo:=0,slots:=[(8, .v (.int .i64 (i))),(7, .v (.int .i64 ((↑(List.length parts): Int)))),(6, .sl 40 (parts:List (El 40)) false),(3, .gs 0)],n:=17,objs:=[.row 5 (out:List (El 5))]}
def oJoin.st (parts:List (List Int)) (i:Int) (out:List Int) (J:St El→Prop) (v:(List Int)): Prop:=cond (decide (i < (↑(List.length parts): Int))) (Ob ((0:Int)≤i∧i < (↑(List.length parts): Int))∧(Ob ((List.length out+List.length (List.getD parts (Int.toNat i) []))* (1:Nat)≤(140737488355328:Nat))∧(J (oJoin.hd parts (IntKind.wrap IntKind.i64 (i+(1:Int))) (out ++ List.getD parts (Int.toNat i) []))))) (oJoin.L (out) v)
theorem oJoin.st_ok (parts:List (List Int)) (i:Int) (out:List Int) (J:St El→Prop) (v:(List Int)): evCode (mkCx Tryz.prog S tab_r2Num 0) (evFun (mkCx Tryz.prog S tab_r2Num 0) 3) (loopB Tryz.prog 69 [true,true,false,true,false]) (oJoin.hd parts i out) (roundK (C:=(mkCx Tryz.prog S tab_r2Num 0)) [8,7,6,3] [.slot 3 5] J (loopK (mkCx Tryz.prog S tab_r2Num 0) 3 69 [true,true,false,true,false] (fun r' H'=>Gives r' H' (oJoin.res v) (oJoin.news v))))= oJoin.st parts i out J v:=by kernel_rfl
def oJoin.rng (parts:List (List Int)) (n0:Nat) (i:Int) (out:List Int): Prop:=0≤i∧i≤parts.length∧(parts.length - i).toNat < n0∧parts.length≤9223372036854775807∧out.length+((parts.drop i.toNat).map List.length).sum≤140737488355328
theorem oJoin.lp (parts:List (List Int)) (hp:(parts.map List.length).sum≤140737488355328) (v:(List Int)) (n0:Nat) (i:Int) (out:List Int) (hv:v=oJoin.go parts n0 i out) (h0:oJoin.rng parts n0 i out) (st:St El) (q1:okH [8,7,6,3] [.slot 3 5] st=true) (q2:headS [8,7,6,3] [.slot 3 5] st=oJoin.hd parts i out): evCode (mkCx Tryz.prog S tab_r2Num 0) (evFun (mkCx Tryz.prog S tab_r2Num 0) 3) (.loop (loopB Tryz.prog 69 [true,true,false,true,false])) st (loopK (mkCx Tryz.prog S tab_r2Num 0) 3 69 [true,true,false,true,false] (fun r' H'=>Gives r' H' (oJoin.res v) (oJoin.news v))):= by
 refine loop_ev (by kernel_rfl) (evFun_mono _ _) [8,7,6,3] [.slot 3 5] (X:=Nat×Int×(List Int)) (fun x=>oJoin.hd parts x.2.1 x.2.2) (fun x=>x.1) (fun x=>oJoin.rng parts x.1 x.2.1 x.2.2∧v=oJoin.go parts x.1 x.2.1 x.2.2) (n0,i,out) ⟨q1,q2⟩ ⟨h0,hv⟩ ?_
 clear h0 hv q1 q2
 rintro ⟨n0,i,out⟩ ⟨hr,hv⟩
 dsimp only at hr hv
 cases n0 with
 | zero=>exact absurd hr (by unfold oJoin.rng;omega)
 | succ n0 =>
 unfold oJoin.rng at hr
 unfold oJoin.go at hv
 refine (oJoin.st_ok parts i out _ _).mpr ?_
 unfold oJoin.st
 revert hv;refine by_cond2 (fun hb hv=>?_) (fun hb hv=>?_)
 refine ⟨⟨?_⟩, ?_⟩;rotate_left
 refine ⟨⟨?_⟩, ?_⟩;rotate_left
 exact ⟨(n0,(IntKind.wrap IntKind.i64 (i+(1:Int))),(out ++ List.getD parts (Int.toNat i) [])),(by kernel_rfl),Nat.lt_succ_self n0,(by dsimp only;unfold oJoin.rng;(try clear hv);(try clear q1 q2);(try clear hk);(simp only [decide_eq_true_eq,List.length_append] at *;have h1:=sumDrop parts i (by omega) (by omega);have h2:=wi64 (i+(1:Int)) (by omega) (by omega);rw [h2];omega)),hv⟩
 subst hv;exact ⟨rfl,rfl⟩
 all_goals ((try clear hv);(try clear q1 q2);(try clear hk);(simp only [decide_eq_true_eq] at *;first | omega | (have h1:=sumDrop parts i (by omega) (by omega);omega)))
def oJoin (parts:List (List Int)): (List Int):= oJoin.go parts (parts.length+1) ((0:Int)) ([])
def oJoin.dec (cs:List (AV El)): Option ((List (List Int))):= popS 40 cs fun a0 c0=>popE c0 a0
def oJoin.enc (x:(List (List Int))): List (AV El):= [.sl 40 (x:List (El 40)) false]
theorem oJoin.dec_ok : ∀cs x,oJoin.dec cs=some x→Imp (S:=S) cs (oJoin.enc x):= by
 intro cs x h
 unfold oJoin.dec at h
 obtain ⟨a0,c0,h0,k0⟩:= popS_some (S:=S) (t:=40) h
 obtain ⟨rfl,rfl⟩:= popE_some (S:=S) h0
 exact (k0 _ (.refl _))
def oJoin.nf (parts:List (List Int)) (v:(List Int)): Prop:=(List.length parts≤(9223372036854775807:Nat))→(evCode (mkCx Tryz.prog S tab_r2Num 0) (evFun (mkCx Tryz.prog S tab_r2Num 0) 3) (.loop (loopB Tryz.prog 69 [true,true,false,true,false])) ({lo:=0,slots:=[(8, .v (.int .i64 ((0:Int)))),(7, .v (.int .i64 ((↑(List.length parts): Int)))),(6, .sl 40 (parts:List (El 40)) false),(3, .v (.slice none 0 0)),(2, .v (.slice none 0 0)),(0, .sl 40 (parts:List (El 40)) false)],n:=17,objs:=[]}) (loopK (mkCx Tryz.prog S tab_r2Num 0) 3 69 [true,true,false,true,false] (fun r' H'=>Gives r' H' (oJoin.res v) (oJoin.news v))))
theorem oJoin.nf_ok (parts:List (List Int)) (v:(List Int)): evFun (mkCx Tryz.prog S tab_r2Num 0) 4 69 [.sl 40 (parts:List (El 40)) false] [] (fun r' H'=>Gives r' H' (oJoin.res v) (oJoin.news v))= oJoin.nf parts v:=by kernel_rfl
theorem oJoin.key (parts:List (List Int)) (hp:(parts.map List.length).sum≤140737488355328) (v:(List Int)) (hv:v=oJoin parts): oJoin.nf parts v:=by
 unfold oJoin at hv
 unfold oJoin.nf
 intro hlen
 exact oJoin.lp parts hp v _ _ _ hv (by unfold oJoin.rng;(try clear hv);(try clear q1 q2);(try clear hk);(simp;omega)) _ (by kernel_rfl) (by kernel_rfl)
def oJoin.ct:Ct El:=ctOf oJoin.dec (fun x=>[(x.map List.length).sum≤140737488355328]) (fun x=>oJoin.res (oJoin x)) (fun x=>oJoin.news (oJoin x))
theorem oJoin.ok:CtOk (mkCx Tryz.prog S [] 0) 69 oJoin.ct:=ct_mk (C:=(mkCx Tryz.prog S tab_r2Num 0)) (mkCx_ok sigOk mixed tab_r2Num_ok 0) oJoin.dec_ok (fun x=>rfl) 4 (fun x hp=>(oJoin.nf_ok x _).mpr (oJoin.key x (hp _ (List.mem_singleton.2 rfl)) _ rfl))
def tab_oJoin:List (FuncId×Ct El):= (69,oJoin.ct):: tab_r2Num
theorem tab_oJoin_ok:TabOk Tryz.prog S tab_oJoin:=⟨oJoin.ok,by kernel_rfl,tab_r2Num_ok⟩
def r2Value.res (r:Int): AV El:=.v (.int .u64 (r))
def r2Value.news (r:Int): List (AObj El):= []
def r2Value.L (e v:Int): Prop:=r2Value.res e=r2Value.res v∧r2Value.news e=r2Value.news v
def r2Value.go (b:List Int): Nat→Int→Int→Int
 | 0,_,_=>0
 | n0+1,i,y=>cond (decide ((0:Int)≤i)) (r2Value.go b n0 (IntKind.wrap IntKind.i64 (i - (1:Int))) (IntKind.wrap IntKind.u64 (IntKind.wrap IntKind.u64 (y*(256:Int))+ IntKind.wrap IntKind.u64 (List.getD b (Int.toNat i) (0:Int))))) (y)
def r2Value.hd (b:List Int) (i:Int) (y:Int): St El:={lo:=0,slots:=[(4, .v (.int .i64 (i))),(3, .v (.int .u64 (y))),(0, .sl 5 (b:List (El 5)) false)],n:=21,objs:=[]}
def r2Value.st (b:List Int) (i:Int) (y:Int) (J:St El→Prop) (v:Int): Prop:=cond (decide ((0:Int)≤i)) (Ob ((0:Int)≤i∧i < (↑(List.length b): Int))∧(J (r2Value.hd b (IntKind.wrap IntKind.i64 (i - (1:Int))) (IntKind.wrap IntKind.u64 (IntKind.wrap IntKind.u64 (y*(256:Int))+ IntKind.wrap IntKind.u64 (List.getD b (Int.toNat i) (0:Int))))))) (r2Value.L (y) v)
theorem r2Value.st_ok (b:List Int) (i:Int) (y:Int) (J:St El→Prop) (v:Int): evCode (mkCx Tryz.prog S tab_oJoin 0) (evFun (mkCx Tryz.prog S tab_oJoin 0) 3) (loopB Tryz.prog 85 [true,true,false,true,false]) (r2Value.hd b i y) (roundK (C:=(mkCx Tryz.prog S tab_oJoin 0)) [4,3,0] [] J (loopK (mkCx Tryz.prog S tab_oJoin 0) 3 85 [true,true,false,true,false] (fun r' H'=>Gives r' H' (r2Value.res v) (r2Value.news v))))= r2Value.st b i y J v:=by kernel_rfl
def r2Value.rng (b:List Int) (n0:Nat) (i:Int) (y:Int): Prop := -1≤i∧i < b.length∧(i+1).toNat < n0∧b.length≤9223372036854775807
theorem r2Value.lp (b:List Int) (v:Int) (n0:Nat) (i:Int) (y:Int) (hv:v=r2Value.go b n0 i y) (h0:r2Value.rng b n0 i y) (st:St El) (q1:okH [4,3,0] [] st=true) (q2:headS [4,3,0] [] st=r2Value.hd b i y): evCode (mkCx Tryz.prog S tab_oJoin 0) (evFun (mkCx Tryz.prog S tab_oJoin 0) 3) (.loop (loopB Tryz.prog 85 [true,true,false,true,false])) st (loopK (mkCx Tryz.prog S tab_oJoin 0) 3 85 [true,true,false,true,false] (fun r' H'=>Gives r' H' (r2Value.res v) (r2Value.news v))):= by
 refine loop_ev (by kernel_rfl) (evFun_mono _ _) [4,3,0] [] (X:=Nat×Int×Int) (fun x=>r2Value.hd b x.2.1 x.2.2) (fun x=>x.1) (fun x=>r2Value.rng b x.1 x.2.1 x.2.2∧v=r2Value.go b x.1 x.2.1 x.2.2) (n0,i,y) ⟨q1,q2⟩ ⟨h0,hv⟩ ?_
 clear h0 hv q1 q2
 rintro ⟨n0,i,y⟩ ⟨hr,hv⟩
 dsimp only at hr hv
 cases n0 with
 | zero=>exact absurd hr (by unfold r2Value.rng;omega)
 | succ n0 =>
 unfold r2Value.rng at hr
 unfold r2Value.go at hv
 refine (r2Value.st_ok b i y _ _).mpr ?_
 unfold r2Value.st
 revert hv;refine by_cond2 (fun hb hv=>?_) (fun hb hv=>?_)
 ·refine ⟨⟨by (try clear hv);(try clear q1 q2);(try clear hk);(first | omega | ((try simp only [decide_eq_true_eq,decide_eq_false_iff_not,Bool.not_eq_true,Bool.not_eq_false,Bool.and_eq_true,Bool.or_eq_true,Bool.not_not,cond_and,cond_or,List.length_append,List.length_cons,List.length_nil] at *);(first | done | ((first | omega | (intros;(try simp only [Bool.not_not,cond_and,cond_or,Bool.and_eq_true,decide_eq_true_eq] at *);(exact band_nn rfl _ _))| (intros;(try simp only [Bool.not_not,cond_and,cond_or,Bool.and_eq_true,decide_eq_true_eq] at *);(exact (wu64s _).2.1))| (intros;(try simp only [Bool.not_not,cond_and,cond_or,Bool.and_eq_true,decide_eq_true_eq] at *);(simp only [Bool.or_eq_false_iff,Bool.and_eq_false_iff,decide_eq_false_iff_not,decide_eq_true_eq,bne_iff_ne,beq_iff_eq,bne_eq_false_iff_eq,beq_eq_false_iff_ne,ne_eq,true_and] at *;omega))| (intros;(try simp only [Bool.not_not,cond_and,cond_or,Bool.and_eq_true,decide_eq_true_eq] at *);(simp only [List.length_drop,List.length_take,List.length_append,List.length_cons,List.length_nil] at *;omega))| (intros;omega)| (intros;simp only [sized_iff,Bool.not_not,cond_and,cond_or,Bool.and_eq_true,decide_eq_true_eq] at *;omega)| (intros;simp_all [sized_iff,Bool.not_not];done))))))⟩, ?_⟩
  exact ⟨(n0,(IntKind.wrap IntKind.i64 (i - (1:Int))),(IntKind.wrap IntKind.u64 (IntKind.wrap IntKind.u64 (y*(256:Int))+ IntKind.wrap IntKind.u64 (List.getD b (Int.toNat i) (0:Int))))),(by kernel_rfl),Nat.lt_succ_self n0,(by dsimp only;unfold r2Value.rng;(try clear hv);(try clear q1 q2);(try clear hk);(try simp only [decide_eq_true_eq,decide_eq_false_iff_not,Bool.not_eq_true,Bool.not_eq_false,Bool.and_eq_true,Bool.or_eq_true,Bool.not_not,cond_and,cond_or,List.length_append,List.length_cons,List.length_nil] at *);have:=wi64s (i - (1:Int));have:=wu64s (IntKind.wrap IntKind.u64 (y*(256:Int))+ IntKind.wrap IntKind.u64 (List.getD b (Int.toNat i) (0:Int)));have:=wu64s (y*(256:Int));have:=wu64s (List.getD b (Int.toNat i) (0:Int));omega),hv⟩
 ·subst hv;exact ⟨rfl,rfl⟩
def r2Value (b:List Int): Int:=r2Value.go b (b.length+1) (IntKind.wrap IntKind.i64 ((↑(List.length b): Int) - (1:Int))) ((0:Int))
def r2Value.dec (cs:List (AV El)): Option ((List Int)):= popS 5 cs fun a0 c0=>popE c0 a0
def r2Value.enc (x:(List Int)): List (AV El):= [.sl 5 (x:List (El 5)) false]
theorem r2Value.dec_ok : ∀cs x,r2Value.dec cs=some x→Imp (S:=S) cs (r2Value.enc x):= by
 intro cs x h
 unfold r2Value.dec at h
 obtain ⟨a0,c0,h0,k0⟩:= popS_some (S:=S) (t:=5) h
 obtain ⟨rfl,rfl⟩:= popE_some (S:=S) h0
 exact (k0 _ (.refl _))
def r2Value.nf (b:List Int) (v:Int): Prop:=(List.length b≤(9223372036854775807:Nat))→(evCode (mkCx Tryz.prog S tab_oJoin 0) (evFun (mkCx Tryz.prog S tab_oJoin 0) 3) (.loop (loopB Tryz.prog 85 [true,true,false,true,false])) ({lo:=0,slots:=[(4, .v (.int .i64 (IntKind.wrap IntKind.i64 ((↑(List.length b): Int) - (1:Int))))),(7, .v (.int .i64 (IntKind.wrap IntKind.i64 ((↑(List.length b): Int) - (1:Int))))),(6, .v (.int .i64 ((↑(List.length b): Int)))),(5, .sl 5 (b:List (El 5)) false),(3, .v (.int .u64 ((0:Int)))),(2, .v (.int .u64 ((0:Int)))),(0, .sl 5 (b:List (El 5)) false)],n:=21,objs:=[]}) (loopK (mkCx Tryz.prog S tab_oJoin 0) 3 85 [true,true,false,true,false] (fun r' H'=>Gives r' H' (r2Value.res v) (r2Value.news v))))
theorem r2Value.nf_ok (b:List Int) (v:Int): evFun (mkCx Tryz.prog S tab_oJoin 0) 4 85 [.sl 5 (b:List (El 5)) false] [] (fun r' H'=>Gives r' H' (r2Value.res v) (r2Value.news v))= r2Value.nf b v:=by kernel_rfl
theorem r2Value.key (b:List Int) (v:Int) (hv:v=r2Value b): r2Value.nf b v:=by
 unfold r2Value at hv
 unfold r2Value.nf
 intro hlen
 exact r2Value.lp b v _ _ _ hv (by unfold r2Value.rng;(try clear hv);(try clear q1 q2);(try clear hk);(have h2:=wi64s ((b.length:Int) - (1:Int));omega)) _ (by kernel_rfl) (by kernel_rfl)
def r2Value.ct:Ct El:=ctOf r2Value.dec (fun _=>[]) (fun x=>r2Value.res (r2Value x)) (fun x=>r2Value.news (r2Value x))
theorem r2Value.ok:CtOk (mkCx Tryz.prog S [] 0) 85 r2Value.ct:=ct_mk (C:=(mkCx Tryz.prog S tab_oJoin 0)) (mkCx_ok sigOk mixed tab_oJoin_ok 0) r2Value.dec_ok (fun x=>rfl) 4 (fun x _=>(r2Value.nf_ok x _).mpr (r2Value.key x _ rfl))
def tab_r2Value:List (FuncId×Ct El):= (85,r2Value.ct):: tab_oJoin
theorem tab_r2Value_ok:TabOk Tryz.prog S tab_r2Value:=⟨r2Value.ok,by kernel_rfl,tab_oJoin_ok⟩
def aCheck.res (r:Int): AV El:=.v (.int .i64 (r))
def aCheck.news (r:Int): List (AObj El):= []
def aCheck.L (e v:Int): Prop:=aCheck.res e=aCheck.res v∧aCheck.news e=aCheck.news v
def aCheck (a:Address): Int:=cond (bif decide (a.Kind≤(0:Int)) then true else decide ((5:Int)≤a.Kind)) ((12:Int)) (cond (shrK IntKind.u64 a.Bits (48:Int) != (0:Int)) ((5:Int)) (cond (a.Kind==(1:Int)) ((0:Int)) (cond (bif bif shrK IntKind.u64 a.Bits (46:Int) != List.getD prefixes (Int.toNat a.Kind) (0:Int) then true else (aPart a).fst==(0:Int) then true else (aPart a).fst==aMask (aPart a).snd) ((1:Int)) ((0:Int)))))
def aCheck.dec (cs:List (AV El)): Option (Address):= popA Address.dec cs fun a0 c0=>popE c0 a0
def aCheck.enc (x:Address): List (AV El):= [Address.av x]
theorem aCheck.dec_ok : ∀cs x,aCheck.dec cs=some x→Imp (S:=S) cs (aCheck.enc x):= by
 intro cs x h
 unfold aCheck.dec at h
 obtain ⟨a0,c0,h0,k0⟩:= popA_some (S:=S) Address.dec_ok h
 obtain ⟨rfl,rfl⟩:= popE_some (S:=S) h0
 exact (k0 _ (.refl _))
def aCheck.nf (a:Address) (v:Int): Prop:=Ob (o3 (!decide (a.Kind≤(0:Int))))∧(Ob (o3 (!decide (a.Kind≤(0:Int))))∧(Ob (on (decide (a.Kind≤(0:Int))))∧(cond (bif decide (a.Kind≤(0:Int)) then true else decide ((5:Int)≤a.Kind)) (aCheck.L ((12:Int)) v) (Ob ((0:Int)≤(48:Int))∧(cond (shrK IntKind.u64 a.Bits (48:Int) != (0:Int)) (aCheck.L ((5:Int)) v) (cond (a.Kind==(1:Int)) (aCheck.L ((0:Int)) v) (Ob ((0:Int)≤(46:Int))∧(Ob ((5:Nat)= List.length prefixes∧(0:Int)≤a.Kind∧a.Kind < (↑(List.length prefixes): Int))∧(Ob (o3 (!shrK IntKind.u64 a.Bits (46:Int) != List.getD prefixes (Int.toNat a.Kind) (0:Int)))∧(Ob (on (shrK IntKind.u64 a.Bits (46:Int) != List.getD prefixes (Int.toNat a.Kind) (0:Int)))∧(Ob (o3 (!bif shrK IntKind.u64 a.Bits (46:Int) != List.getD prefixes (Int.toNat a.Kind) (0:Int) then true else (aPart a).fst==(0:Int)))∧(Ob ((!bif shrK IntKind.u64 a.Bits (46:Int) != List.getD prefixes (Int.toNat a.Kind) (0:Int) then true else (aPart a).fst==(0:Int))= true→(0:Int)≤(aPart a).snd)∧(Ob (o3 (!bif shrK IntKind.u64 a.Bits (46:Int) != List.getD prefixes (Int.toNat a.Kind) (0:Int) then true else (aPart a).fst==(0:Int)))∧(Ob (o3 (!bif shrK IntKind.u64 a.Bits (46:Int) != List.getD prefixes (Int.toNat a.Kind) (0:Int) then true else (aPart a).fst==(0:Int)))∧(Ob (on (bif shrK IntKind.u64 a.Bits (46:Int) != List.getD prefixes (Int.toNat a.Kind) (0:Int) then true else (aPart a).fst==(0:Int)))∧(cond (bif bif shrK IntKind.u64 a.Bits (46:Int) != List.getD prefixes (Int.toNat a.Kind) (0:Int) then true else (aPart a).fst==(0:Int) then true else (aPart a).fst==aMask (aPart a).snd) (aCheck.L ((1:Int)) v) (aCheck.L ((0:Int)) v)))))))))))))))))
theorem aCheck.nf_ok (a:Address) (v:Int): evFun (mkCx Tryz.prog S tab_r2Value 0) 4 21 [Address.av a] [] (fun r' H'=>Gives r' H' (aCheck.res v) (aCheck.news v))= aCheck.nf a v:=by kernel_rfl
theorem aCheck.key (a:Address) (v:Int) (hv:v=aCheck a): aCheck.nf a v:=by
 unfold aCheck at hv
 unfold aCheck.nf
 iterate 2 refine ⟨⟨o3_ok _⟩, ?_⟩
 refine ⟨⟨on_ok _⟩, ?_⟩
 revert hv;refine by_cond2 (fun hb hv=>?_) (fun hb hv=>?_)
 subst hv;exact ⟨rfl,rfl⟩
 refine ⟨⟨?_⟩, ?_⟩;rotate_left
 revert hv;refine by_cond2 (fun hb hv=>?_) (fun hb hv=>?_)
 subst hv;exact ⟨rfl,rfl⟩
 revert hv;refine by_cond2 (fun hb hv=>?_) (fun hb hv=>?_)
 subst hv;exact ⟨rfl,rfl⟩
 refine ⟨⟨?_⟩, ?_⟩;rotate_left
 refine ⟨⟨?_⟩, ?_⟩;rotate_left
 refine ⟨⟨o3_ok _⟩, ?_⟩
 refine ⟨⟨on_ok _⟩, ?_⟩
 refine ⟨⟨o3_ok _⟩, ?_⟩
 refine ⟨⟨?_⟩, ?_⟩;rotate_left
 iterate 2 refine ⟨⟨o3_ok _⟩, ?_⟩
 refine ⟨⟨on_ok _⟩, ?_⟩
 revert hv;refine by_cond2 (fun hb hv=>?_) (fun hb hv=>?_)
 subst hv;exact ⟨rfl,rfl⟩
 subst hv;exact ⟨rfl,rfl⟩
 all_goals ((try clear hv);(try clear q1 q2);(try clear hk);(first | omega | ((try simp only [decide_eq_true_eq,decide_eq_false_iff_not,Bool.not_eq_true,Bool.not_eq_false,Bool.and_eq_true,Bool.or_eq_true,Bool.not_not,cond_and,cond_or,List.length_append,List.length_cons,List.length_nil] at *);(first | done | ((first | omega | (intros;(try simp only [Bool.not_not,cond_and,cond_or,Bool.and_eq_true,decide_eq_true_eq] at *);(exact band_nn rfl _ _))| (intros;(try simp only [Bool.not_not,cond_and,cond_or,Bool.and_eq_true,decide_eq_true_eq] at *);(exact (wu64s _).2.1))| (intros;(try simp only [Bool.not_not,cond_and,cond_or,Bool.and_eq_true,decide_eq_true_eq] at *);(simp only [Bool.or_eq_false_iff,Bool.and_eq_false_iff,decide_eq_false_iff_not,decide_eq_true_eq,bne_iff_ne,beq_iff_eq,bne_eq_false_iff_eq,beq_eq_false_iff_ne,ne_eq,true_and] at *;omega))| (intros;(try simp only [Bool.not_not,cond_and,cond_or,Bool.and_eq_true,decide_eq_true_eq] at *);(simp only [List.length_drop,List.length_take,List.length_append,List.length_cons,List.length_nil] at *;omega))| (intros;(try simp only [Bool.not_not,cond_and,cond_or,Bool.and_eq_true,decide_eq_true_eq] at *);(exact aPart_nn _))| (intros;(try simp only [Bool.not_not,cond_and,cond_or,Bool.and_eq_true,decide_eq_true_eq] at *);(have hpl:=prefixes_len;simp only [Bool.or_eq_false_iff,decide_eq_false_iff_not] at *;omega))| (intros;omega)| (intros;simp only [sized_iff,Bool.not_not,cond_and,cond_or,Bool.and_eq_true,decide_eq_true_eq] at *;omega)| (intros;simp_all [sized_iff,Bool.not_not];done)))))))
def aCheck.ct:Ct El:=ctOf aCheck.dec (fun _=>[]) (fun x=>aCheck.res (aCheck x)) (fun x=>aCheck.news (aCheck x))
theorem aCheck.ok:CtOk (mkCx Tryz.prog S [] 0) 21 aCheck.ct:=ct_mk (C:=(mkCx Tryz.prog S tab_r2Value 0)) (mkCx_ok sigOk mixed tab_r2Value_ok 0) aCheck.dec_ok (fun x=>rfl) 4 (fun x _=>(aCheck.nf_ok x _).mpr (aCheck.key x _ rfl))
def tab_aCheck:List (FuncId×Ct El):= (21,aCheck.ct):: tab_r2Value
theorem tab_aCheck_ok:TabOk Tryz.prog S tab_aCheck:=⟨aCheck.ok,by kernel_rfl,tab_r2Value_ok⟩
end Go.Aw.W
