/- Contracts of the seat (printed by ct.py). -/
import Derived.Test.YtppceadhdckpmaaGreatDoorXW6
import Derived.Test.YtppceadhdckpmaaGreatDoorXOctA
set_option linter.unusedVariables false
set_option linter.unusedSimpArgs false
set_option maxRecDepth 20000
set_option maxHeartbeats 1000000
namespace Go.Aw.W
open Go Go.Aw Go.Proofs
attribute [local irreducible] evCode evFun evOps evDs evOne ctxK loopK loopB subC bodyC headS okH roundK
theorem r2Num_go_len (size p1:Int) (hs:size≤8): ∀(n:Nat) (i q:Int) (out:List Int),0≤i→(r2Num.go size p1 n i q out).length≤out.length+(size - i).toNat
 | 0,i,q,out,h=>by simp [r2Num.go]
 | n+1,i,q,out,h=>by
  unfold r2Num.go
  by_cases hi:i < size
  ·simp only [hi,decide_true,cond_true]
   have:=r2Num_go_len size p1 hs n (IntKind.wrap IntKind.i64 (i+(1:Int))) (IntKind.wrap IntKind.u64 (Int.tdiv q (256:Int))) (out ++ [IntKind.wrap IntKind.u8 (Int.tmod q (256:Int))]) (by rw [wi64 _ (by omega) (by omega)];omega)
   rw [wi64 (i+(1:Int)) (by omega) (by omega),List.length_append,List.length_singleton] at this
   rw [wi64 (i+(1:Int)) (by omega) (by omega)]
   omega
  ·simp only [hi,decide_false,cond_false];omega
theorem r2Num_len {size:Int} (v:Int) (hs:size≤8): (r2Num size v).length≤8:=by
 have:=r2Num_go_len size v hs (size.toNat+1) 0 v [] (by omega)
 unfold r2Num
 simp only [List.length_nil] at this
 omega
theorem pDerive_len (l p:List Int) (hl:l.length≤1099511627776) (hp:p.length≤1099511627776): ([l,[(0:Int)],mBytes p].map List.length).sum≤140737488355328:=by
 have:=mBytes_len p hp
 simp;omega
theorem pDerive_len2 (l p:List Int) (hl:l.length≤1099511627776) (hp:p.length≤1099511627776): (oJoin [l,[(0:Int)],mBytes p]).length≤4611686018427387904:=by
 have:=mBytes_len p hp
 rw [oJoin_eq _ (by simp)]
 simp;omega
def r6Tag.res (r:Int): AV El:=.v (.int .u64 (r))
def r6Tag.news (r:Int): List (AObj El):= []
def r6Tag.L (e v:Int): Prop:=r6Tag.res e=r6Tag.res v∧r6Tag.news e=r6Tag.news v
def r6Tag.go (k:Int) (b:List Int): Nat→Int→Int→Int
 | 0,_,_=>0
 | n0+1,i,y=>cond (decide (i < (↑(List.length b): Int))) (r6Tag.go k b n0 (IntKind.wrap IntKind.i64 (i+(8:Int))) (r5Mix k (bxorK IntKind.u64 y (r2Value (List.drop (Int.toNat i) (List.take (Int.toNat (minI (IntKind.wrap IntKind.i64 (i+(8:Int))) (↑(List.length b): Int))) b)))))) (y)
def r6Tag.hd (k:Int) (b:List Int) (i:Int) (y:Int): St El:={lo:=0,slots:=[(6, .v (.int .i64 (i))),(5, .v (.int .u64 (y))),(0, .v (.int .u64 (k))),(1, .sl 5 (b:List (El 5)) false)],n:=32,objs:=[]}
def r6Tag.st (k:Int) (b:List Int) (i:Int) (y:Int) (J:St El→Prop) (v:Int): Prop:=(List.length b≤(9223372036854775807:Nat))→(cond (decide (i < (↑(List.length b): Int))) ((List.length b≤(9223372036854775807:Nat))→(Ob ((0:Int)≤i∧i≤minI (IntKind.wrap IntKind.i64 (i+(8:Int))) (↑(List.length b): Int)∧minI (IntKind.wrap IntKind.i64 (i+(8:Int))) (↑(List.length b): Int)≤(↑(List.length b): Int))∧(J (r6Tag.hd k b (IntKind.wrap IntKind.i64 (i+(8:Int))) (r5Mix k (bxorK IntKind.u64 y (r2Value (List.drop (Int.toNat i) (List.take (Int.toNat (minI (IntKind.wrap IntKind.i64 (i+(8:Int))) (↑(List.length b): Int))) b))))))))) (r6Tag.L (y) v))
theorem r6Tag.st_ok (k:Int) (b:List Int) (i:Int) (y:Int) (J:St El→Prop) (v:Int): evCode (mkCx Tryz.prog S tab_kTag 0) (evFun (mkCx Tryz.prog S tab_kTag 0) 3) (loopB Tryz.prog 72 [true,true,false,true,false]) (r6Tag.hd k b i y) (roundK (C:=(mkCx Tryz.prog S tab_kTag 0)) [6,5,0,1] [] J (loopK (mkCx Tryz.prog S tab_kTag 0) 3 72 [true,true,false,true,false] (fun r' H'=>Gives r' H' (r6Tag.res v) (r6Tag.news v))))= r6Tag.st k b i y J v:=by kernel_rfl
def r6Tag.rng (k:Int) (b:List Int) (n0:Nat) (i:Int) (y:Int): Prop:=0≤i∧i≤b.length+8∧(b.length+8 - i).toNat < n0∧b.length≤4611686018427387904
theorem r6Tag.lp (k:Int) (b:List Int) (hp:b.length≤4611686018427387904) (v:Int) (n0:Nat) (i:Int) (y:Int) (hv:v=r6Tag.go k b n0 i y) (h0:r6Tag.rng k b n0 i y) (st:St El) (q1:okH [6,5,0,1] [] st=true) (q2:headS [6,5,0,1] [] st=r6Tag.hd k b i y): evCode (mkCx Tryz.prog S tab_kTag 0) (evFun (mkCx Tryz.prog S tab_kTag 0) 3) (.loop (loopB Tryz.prog 72 [true,true,false,true,false])) st (loopK (mkCx Tryz.prog S tab_kTag 0) 3 72 [true,true,false,true,false] (fun r' H'=>Gives r' H' (r6Tag.res v) (r6Tag.news v))):= by
 refine loop_ev (by kernel_rfl) (evFun_mono _ _) [6,5,0,1] [] (X:=Nat×Int×Int) (fun x=>r6Tag.hd k b x.2.1 x.2.2) (fun x=>x.1) (fun x=>r6Tag.rng k b x.1 x.2.1 x.2.2∧v=r6Tag.go k b x.1 x.2.1 x.2.2) (n0,i,y) ⟨q1,q2⟩ ⟨h0,hv⟩ ?_
 clear h0 hv q1 q2
 rintro ⟨n0,i,y⟩ ⟨hr,hv⟩
 dsimp only at hr hv
 cases n0 with
 | zero=>exact absurd hr (by unfold r6Tag.rng;omega)
 | succ n0 =>
 unfold r6Tag.rng at hr
 unfold r6Tag.go at hv
 refine (r6Tag.st_ok k b i y _ _).mpr ?_
 unfold r6Tag.st
 intro hlen
 revert hv;refine by_cond2 (fun hb hv=>?_) (fun hb hv=>?_)
 ·intro hlen
  refine ⟨⟨by (try clear hv);(try clear q1 q2);(try clear hk);((try simp only [decide_eq_true_eq,minI_eq] at *);first | omega | (have h1:=wi64 (i+(8:Int)) (by omega) (by omega);omega))⟩, ?_⟩
  exact ⟨(n0,(IntKind.wrap IntKind.i64 (i+(8:Int))),(r5Mix k (bxorK IntKind.u64 y (r2Value (List.drop (Int.toNat i) (List.take (Int.toNat (minI (IntKind.wrap IntKind.i64 (i+(8:Int))) (↑(List.length b): Int))) b)))))),(by kernel_rfl),Nat.lt_succ_self n0,(by dsimp only;unfold r6Tag.rng;(try clear hv);(try clear q1 q2);(try clear hk);(simp only [decide_eq_true_eq] at *;have h1:=wi64 (i+(8:Int)) (by omega) (by omega);omega)),hv⟩
 ·subst hv;exact ⟨rfl,rfl⟩
def r6Tag (k:Int) (b:List Int): Int:=r6Tag.go k b (b.length+9) ((0:Int)) (r5Mix k (IntKind.wrap IntKind.u64 (↑(List.length b): Int)))
def r6Tag.dec (cs:List (AV El)): Option (Int×(List Int)):= popI .u64 cs fun a0 c0=>popS 5 c0 fun a1 c1=>popE c1 (a0,a1)
def r6Tag.enc (x:Int×(List Int)): List (AV El):= [.v (.int .u64 x.1), .sl 5 (x.2:List (El 5)) false]
theorem r6Tag.dec_ok : ∀cs x,r6Tag.dec cs=some x→Imp (S:=S) cs (r6Tag.enc x):= by
 intro cs x h
 unfold r6Tag.dec at h
 obtain ⟨a0,c0,rfl,h0⟩:= popI_some (S:=S) h
 obtain ⟨a1,c1,h1,k1⟩:= popS_some (S:=S) (t:=5) h0
 obtain ⟨rfl,rfl⟩:= popE_some (S:=S) h1
 exact (.cons (k1 _ (.refl _)))
def r6Tag.nf (k:Int) (b:List Int) (v:Int): Prop:=(List.length b≤(9223372036854775807:Nat))→(evCode (mkCx Tryz.prog S tab_kTag 0) (evFun (mkCx Tryz.prog S tab_kTag 0) 3) (.loop (loopB Tryz.prog 72 [true,true,false,true,false])) ({lo:=0,slots:=[(6, .v (.int .i64 ((0:Int)))),(5, .v (.int .u64 (r5Mix k (IntKind.wrap IntKind.u64 (↑(List.length b): Int))))),(11, .v (.int .u64 (r5Mix k (IntKind.wrap IntKind.u64 (↑(List.length b): Int))))),(10, .v (.int .u64 (IntKind.wrap IntKind.u64 (↑(List.length b): Int)))),(9, .v (.int .i64 ((↑(List.length b): Int)))),(8, .sl 5 (b:List (El 5)) false),(7, .v (.int .u64 (k))),(4, .v (.int .u64 ((0:Int)))),(0, .v (.int .u64 (k))),(1, .sl 5 (b:List (El 5)) false)],n:=32,objs:=[]}) (loopK (mkCx Tryz.prog S tab_kTag 0) 3 72 [true,true,false,true,false] (fun r' H'=>Gives r' H' (r6Tag.res v) (r6Tag.news v))))
theorem r6Tag.nf_ok (k:Int) (b:List Int) (v:Int): evFun (mkCx Tryz.prog S tab_kTag 0) 4 72 [.v (.int .u64 k), .sl 5 (b:List (El 5)) false] [] (fun r' H'=>Gives r' H' (r6Tag.res v) (r6Tag.news v))= r6Tag.nf k b v:=by kernel_rfl
theorem r6Tag.key (k:Int) (b:List Int) (hp:b.length≤4611686018427387904) (v:Int) (hv:v=r6Tag k b): r6Tag.nf k b v:=by
 unfold r6Tag at hv
 unfold r6Tag.nf
 intro hlen
 exact r6Tag.lp k b hp v _ _ _ hv (by unfold r6Tag.rng;(try clear hv);(try clear q1 q2);(try clear hk);(first | omega | (simp only [List.length_nil];omega)| (simp;omega))) _ (by kernel_rfl) (by kernel_rfl)
def r6Tag.ct:Ct El:=ctOf r6Tag.dec (fun x=>[x.2.length≤4611686018427387904]) (fun x=>r6Tag.res (r6Tag x.1 x.2)) (fun x=>r6Tag.news (r6Tag x.1 x.2))
theorem r6Tag.ok:CtOk (mkCx Tryz.prog S [] 0) 72 r6Tag.ct:=ct_mk (C:=(mkCx Tryz.prog S tab_kTag 0)) (mkCx_ok sigOk mixed tab_kTag_ok 0) r6Tag.dec_ok (fun x=>rfl) 4 (fun x hp=>(r6Tag.nf_ok x.1 x.2 _).mpr (r6Tag.key x.1 x.2 (hp _ (List.mem_singleton.2 rfl)) _ rfl))
def tab_r6Tag:List (FuncId×Ct El):= (72,r6Tag.ct):: tab_kTag
theorem tab_r6Tag_ok:TabOk Tryz.prog S tab_r6Tag:=⟨r6Tag.ok,by kernel_rfl,tab_kTag_ok⟩
def r6Derive.res (r:Int): AV El:=.v (.int .u64 (r))
def r6Derive.news (r:Int): List (AObj El):= []
def r6Derive.L (e v:Int): Prop:=r6Derive.res e=r6Derive.res v∧r6Derive.news e=r6Derive.news v
def r6Derive.go (k:Int) (label:ByteArray) (parts:List Int): Nat→Int→(List Int)→Int
 | 0,_,_=>0
 | n0+1,i,out=>cond (decide (i < (↑(List.length parts): Int))) (r6Derive.go k label parts n0 (IntKind.wrap IntKind.i64 (i+(1:Int))) (out ++ r2Num (8:Int) (List.getD parts (Int.toNat i) (0:Int)))) (r6Tag k out)
def r6Derive.hd (k:Int) (label:ByteArray) (parts:List Int) (i:Int) (out:List Int): St El:={lo:=0,slots:=[(8, .v (.int .i64 (i))),(7, .gs 0),(0, .v (.int .u64 (k))),(2, .sl 24 (parts:List (El 24)) false)],n:=29,objs:=[.row 5 (out:List (El 5))]}
def r6Derive.st (k:Int) (label:ByteArray) (parts:List Int) (i:Int) (out:List Int) (J:St El→Prop) (v:Int): Prop:=(List.length parts≤(9223372036854775807:Nat))→(cond (decide (i < (↑(List.length parts): Int))) (Ob ((0:Int)≤i∧i < (↑(List.length parts): Int))∧(Ob ((8:Int)≤(8:Int))∧(Ob ((List.length out+List.length (r2Num (8:Int) (List.getD parts (Int.toNat i) (0:Int))))* (1:Nat)≤(140737488355328:Nat))∧(J (r6Derive.hd k label parts (IntKind.wrap IntKind.i64 (i+(1:Int))) (out ++ r2Num (8:Int) (List.getD parts (Int.toNat i) (0:Int)))))))) (Ob (List.length out≤(4611686018427387904:Nat))∧(r6Derive.L (r6Tag k out) v)))
theorem r6Derive.st_ok (k:Int) (label:ByteArray) (parts:List Int) (i:Int) (out:List Int) (J:St El→Prop) (v:Int): evCode (mkCx Tryz.prog S tab_r6Tag 0) (evFun (mkCx Tryz.prog S tab_r6Tag 0) 3) (loopB Tryz.prog 57 [true,true,false,true,false]) (r6Derive.hd k label parts i out) (roundK (C:=(mkCx Tryz.prog S tab_r6Tag 0)) [8,7,0,2] [] J (loopK (mkCx Tryz.prog S tab_r6Tag 0) 3 57 [true,true,false,true,false] (fun r' H'=>Gives r' H' (r6Derive.res v) (r6Derive.news v))))= r6Derive.st k label parts i out J v:=by kernel_rfl
def r6Derive.rng (k:Int) (label:ByteArray) (parts:List Int) (n0:Nat) (i:Int) (out:List Int): Prop:=0≤i∧i≤parts.length∧(parts.length - i).toNat < n0∧parts.length≤1099511627776∧out.length≤1099511627777+8*i
theorem r6Derive.lp (k:Int) (label:ByteArray) (parts:List Int) (hp:(bytesI label).length≤1099511627776∧parts.length≤1099511627776) (v:Int) (n0:Nat) (i:Int) (out:List Int) (hv:v=r6Derive.go k label parts n0 i out) (h0:r6Derive.rng k label parts n0 i out) (st:St El) (q1:okH [8,7,0,2] [] st=true) (q2:headS [8,7,0,2] [] st=r6Derive.hd k label parts i out): evCode (mkCx Tryz.prog S tab_r6Tag 0) (evFun (mkCx Tryz.prog S tab_r6Tag 0) 3) (.loop (loopB Tryz.prog 57 [true,true,false,true,false])) st (loopK (mkCx Tryz.prog S tab_r6Tag 0) 3 57 [true,true,false,true,false] (fun r' H'=>Gives r' H' (r6Derive.res v) (r6Derive.news v))):= by
 refine loop_ev (by kernel_rfl) (evFun_mono _ _) [8,7,0,2] [] (X:=Nat×Int×(List Int)) (fun x=>r6Derive.hd k label parts x.2.1 x.2.2) (fun x=>x.1) (fun x=>r6Derive.rng k label parts x.1 x.2.1 x.2.2∧v=r6Derive.go k label parts x.1 x.2.1 x.2.2) (n0,i,out) ⟨q1,q2⟩ ⟨h0,hv⟩ ?_
 clear h0 hv q1 q2
 rintro ⟨n0,i,out⟩ ⟨hr,hv⟩
 dsimp only at hr hv
 cases n0 with
 | zero=>exact absurd hr (by unfold r6Derive.rng;omega)
 | succ n0 =>
 unfold r6Derive.rng at hr
 unfold r6Derive.go at hv
 refine (r6Derive.st_ok k label parts i out _ _).mpr ?_
 unfold r6Derive.st
 intro hlen
 revert hv;refine by_cond2 (fun hb hv=>?_) (fun hb hv=>?_)
 refine ⟨⟨?_⟩, ?_⟩;rotate_left
 refine ⟨⟨?_⟩, ?_⟩;rotate_left
 refine ⟨⟨?_⟩, ?_⟩;rotate_left
 exact ⟨(n0,(IntKind.wrap IntKind.i64 (i+(1:Int))),(out ++ r2Num (8:Int) (List.getD parts (Int.toNat i) (0:Int)))),(by kernel_rfl),Nat.lt_succ_self n0,(by dsimp only;unfold r6Derive.rng;(try clear hv);(try clear q1 q2);(try clear hk);(simp only [decide_eq_true_eq,List.length_append] at *;have h1:=r2Num_len (parts.getD i.toNat (0:Int)) (show (8:Int)≤8 by omega);have h2:=wi64 (i+(1:Int)) (by omega) (by omega);omega)),hv⟩
 refine ⟨⟨?_⟩, ?_⟩;rotate_left
 subst hv;exact ⟨rfl,rfl⟩
 all_goals ((try clear hv);(try clear q1 q2);(try clear hk);((try simp only [decide_eq_true_eq,List.length_append,List.length_cons,List.length_nil] at *);first | omega | (have h1:=r2Num_len (parts.getD i.toNat (0:Int)) (show (8:Int)≤8 by omega);omega)))
def r6Derive (k:Int) (label:ByteArray) (parts:List Int): Int:=r6Derive.go k label parts (parts.length+1) ((0:Int)) (bytesI label ++ [(0:Int)])
def r6Derive.dec (cs:List (AV El)): Option (Int×ByteArray×(List Int)):= popI .u64 cs fun a0 c0=>popT c0 fun a1 c1=>popS 24 c1 fun a2 c2=>popE c2 (a0,a1,a2)
def r6Derive.enc (x:Int×ByteArray×(List Int)): List (AV El):= [.v (.int .u64 x.1), .v (.string x.2.1), .sl 24 (x.2.2:List (El 24)) false]
theorem r6Derive.dec_ok : ∀cs x,r6Derive.dec cs=some x→Imp (S:=S) cs (r6Derive.enc x):= by
 intro cs x h
 unfold r6Derive.dec at h
 obtain ⟨a0,c0,rfl,h0⟩:= popI_some (S:=S) h
 obtain ⟨a1,c1,rfl,h1⟩:= popT_some (S:=S) h0
 obtain ⟨a2,c2,h2,k2⟩:= popS_some (S:=S) (t:=24) h1
 obtain ⟨rfl,rfl⟩:= popE_some (S:=S) h2
 exact (.cons (.cons (k2 _ (.refl _))))
def r6Derive.nf (k:Int) (label:ByteArray) (parts:List Int) (v:Int): Prop:=Ob (List.length (bytesI label)≤(9223372036854775807:Nat))∧(Ob ((List.length (bytesI label)+ List.length [(0:Int)])* (1:Nat)≤(140737488355328:Nat))∧(evCode (mkCx Tryz.prog S tab_r6Tag 0) (evFun (mkCx Tryz.prog S tab_r6Tag 0) 3) (.loop (loopB Tryz.prog 57 [true,true,false,true,false])) ({lo:=0,slots:=[(8, .v (.int .i64 ((0:Int)))),(7, .gs 2),(12, .gs 2),(11, .gs 1),(10, .gs 0),(9, .v (.string (label))),(6, .v (.int .u64 ((0:Int)))),(0, .v (.int .u64 (k))),(1, .v (.string (label))),(2, .sl 24 (parts:List (El 24)) false)],n:=29,objs:=[.gone, .row 5 ([(0:Int)]: List (El 5)), .row 5 (bytesI label ++ [(0:Int)]: List (El 5))]}) (loopK (mkCx Tryz.prog S tab_r6Tag 0) 3 57 [true,true,false,true,false] (fun r' H'=>Gives r' H' (r6Derive.res v) (r6Derive.news v)))))
theorem r6Derive.nf_ok (k:Int) (label:ByteArray) (parts:List Int) (v:Int): evFun (mkCx Tryz.prog S tab_r6Tag 0) 4 57 [.v (.int .u64 k), .v (.string label), .sl 24 (parts:List (El 24)) false] [] (fun r' H'=>Gives r' H' (r6Derive.res v) (r6Derive.news v))= r6Derive.nf k label parts v:=by kernel_rfl
theorem r6Derive.key (k:Int) (label:ByteArray) (parts:List Int) (hp:(bytesI label).length≤1099511627776∧parts.length≤1099511627776) (v:Int) (hv:v=r6Derive k label parts): r6Derive.nf k label parts v:=by
 unfold r6Derive at hv
 unfold r6Derive.nf
 refine ⟨⟨?_⟩, ?_⟩;rotate_left
 refine ⟨⟨?_⟩, ?_⟩;rotate_left
 exact r6Derive.lp k label parts hp v _ _ _ hv (by unfold r6Derive.rng;(try clear hv);(try clear q1 q2);(try clear hk);(simp only [List.length_append,List.length_cons,List.length_nil];omega)) _ (by kernel_rfl) (by kernel_rfl)
 all_goals ((try clear hv);(try clear q1 q2);(try clear hk);((try simp only [decide_eq_true_eq,List.length_append,List.length_cons,List.length_nil] at *);first | omega | (have h1:=r2Num_len (parts.getD i.toNat (0:Int)) (show (8:Int)≤8 by omega);omega)))
def r6Derive.ct:Ct El:=ctOf r6Derive.dec (fun x=>[(bytesI x.2.1).length≤1099511627776∧x.2.2.length≤1099511627776]) (fun x=>r6Derive.res (r6Derive x.1 x.2.1 x.2.2)) (fun x=>r6Derive.news (r6Derive x.1 x.2.1 x.2.2))
theorem r6Derive.ok:CtOk (mkCx Tryz.prog S [] 0) 57 r6Derive.ct:=ct_mk (C:=(mkCx Tryz.prog S tab_r6Tag 0)) (mkCx_ok sigOk mixed tab_r6Tag_ok 0) r6Derive.dec_ok (fun x=>rfl) 4 (fun x hp=>(r6Derive.nf_ok x.1 x.2.1 x.2.2 _).mpr (r6Derive.key x.1 x.2.1 x.2.2 (hp _ (List.mem_singleton.2 rfl)) _ rfl))
def tab_r6Derive:List (FuncId×Ct El):= (57,r6Derive.ct):: tab_r6Tag
theorem tab_r6Derive_ok:TabOk Tryz.prog S tab_r6Derive:=⟨r6Derive.ok,by kernel_rfl,tab_r6Tag_ok⟩
def pDerive.res (r:Int): AV El:=.v (.int .u64 (r))
def pDerive.news (r:Int): List (AObj El):= []
def pDerive.L (e v:Int): Prop:=pDerive.res e=pDerive.res v∧pDerive.news e=pDerive.news v
def pDerive (k:Int) (label:ByteArray) (parts:List Int): Int:=kTag k (oJoin [bytesI label,[(0:Int)],mBytes parts])
def pDerive.dec (cs:List (AV El)): Option (Int×ByteArray×(List Int)):= popI .u64 cs fun a0 c0=>popT c0 fun a1 c1=>popS 24 c1 fun a2 c2=>popE c2 (a0,a1,a2)
def pDerive.enc (x:Int×ByteArray×(List Int)): List (AV El):= [.v (.int .u64 x.1), .v (.string x.2.1), .sl 24 (x.2.2:List (El 24)) false]
theorem pDerive.dec_ok : ∀cs x,pDerive.dec cs=some x→Imp (S:=S) cs (pDerive.enc x):= by
 intro cs x h
 unfold pDerive.dec at h
 obtain ⟨a0,c0,rfl,h0⟩:= popI_some (S:=S) h
 obtain ⟨a1,c1,rfl,h1⟩:= popT_some (S:=S) h0
 obtain ⟨a2,c2,h2,k2⟩:= popS_some (S:=S) (t:=24) h1
 obtain ⟨rfl,rfl⟩:= popE_some (S:=S) h2
 exact (.cons (.cons (k2 _ (.refl _))))
def pDerive.nf (k:Int) (label:ByteArray) (parts:List Int) (v:Int): Prop:=Ob (List.length (bytesI label)≤(9223372036854775807:Nat))∧(Ob (List.length parts≤(1099511627776:Nat))∧(Ob (List.sum (List.map List.length [bytesI label,[(0:Int)],mBytes parts])≤(140737488355328:Nat))∧(Ob (List.length (oJoin [bytesI label,[(0:Int)],mBytes parts])≤(4611686018427387904:Nat))∧(pDerive.L (kTag k (oJoin [bytesI label,[(0:Int)],mBytes parts])) v))))
theorem pDerive.nf_ok (k:Int) (label:ByteArray) (parts:List Int) (v:Int): evFun (mkCx Tryz.prog S tab_r6Derive 0) 4 56 [.v (.int .u64 k), .v (.string label), .sl 24 (parts:List (El 24)) false] [] (fun r' H'=>Gives r' H' (pDerive.res v) (pDerive.news v))= pDerive.nf k label parts v:=by kernel_rfl
theorem pDerive.key (k:Int) (label:ByteArray) (parts:List Int) (hp:(bytesI label).length≤1099511627776∧parts.length≤1099511627776) (v:Int) (hv:v=pDerive k label parts): pDerive.nf k label parts v:=by
 unfold pDerive at hv
 unfold pDerive.nf
 refine ⟨⟨?_⟩, ?_⟩;rotate_left
 refine ⟨⟨?_⟩, ?_⟩;rotate_left
 refine ⟨⟨?_⟩, ?_⟩;rotate_left
 refine ⟨⟨?_⟩, ?_⟩;rotate_left
 subst hv;exact ⟨rfl,rfl⟩
 all_goals ((try clear hv);(try clear q1 q2);(try clear hk);(first | omega | ((try simp only [decide_eq_true_eq,decide_eq_false_iff_not,Bool.not_eq_true,Bool.not_eq_false,Bool.and_eq_true,Bool.or_eq_true,Bool.not_not,cond_and,cond_or,List.length_append,List.length_cons,List.length_nil] at *);(first | done | ((first | omega | (intros;(try simp only [Bool.not_not,cond_and,cond_or,Bool.and_eq_true,decide_eq_true_eq] at *);(exact pDerive_len _ _ (by omega) (by omega)))| (intros;(try simp only [Bool.not_not,cond_and,cond_or,Bool.and_eq_true,decide_eq_true_eq] at *);(exact pDerive_len2 _ _ (by omega) (by omega)))| (intros;(try simp only [Bool.not_not,cond_and,cond_or,Bool.and_eq_true,decide_eq_true_eq] at *);(exact band_nn rfl _ _))| (intros;(try simp only [Bool.not_not,cond_and,cond_or,Bool.and_eq_true,decide_eq_true_eq] at *);(exact (wu64s _).2.1))| (intros;(try simp only [Bool.not_not,cond_and,cond_or,Bool.and_eq_true,decide_eq_true_eq] at *);(simp only [Bool.or_eq_false_iff,Bool.and_eq_false_iff,decide_eq_false_iff_not,decide_eq_true_eq,bne_iff_ne,beq_iff_eq,bne_eq_false_iff_eq,beq_eq_false_iff_ne,ne_eq,true_and] at *;omega))| (intros;(try simp only [Bool.not_not,cond_and,cond_or,Bool.and_eq_true,decide_eq_true_eq] at *);(simp only [List.length_drop,List.length_take,List.length_append,List.length_cons,List.length_nil] at *;omega))| (intros;omega)| (intros;simp only [sized_iff,Bool.not_not,cond_and,cond_or,Bool.and_eq_true,decide_eq_true_eq] at *;omega)| (intros;simp_all [sized_iff,Bool.not_not];done)))))))
def pDerive.ct:Ct El:=ctOf pDerive.dec (fun x=>[(bytesI x.2.1).length≤1099511627776∧x.2.2.length≤1099511627776]) (fun x=>pDerive.res (pDerive x.1 x.2.1 x.2.2)) (fun x=>pDerive.news (pDerive x.1 x.2.1 x.2.2))
theorem pDerive.ok:CtOk (mkCx Tryz.prog S [] 0) 56 pDerive.ct:=ct_mk (C:=(mkCx Tryz.prog S tab_r6Derive 0)) (mkCx_ok sigOk mixed tab_r6Derive_ok 0) pDerive.dec_ok (fun x=>rfl) 4 (fun x hp=>(pDerive.nf_ok x.1 x.2.1 x.2.2 _).mpr (pDerive.key x.1 x.2.1 x.2.2 (hp _ (List.mem_singleton.2 rfl)) _ rfl))
def tab_pDerive:List (FuncId×Ct El):= (56,pDerive.ct):: tab_r6Derive
theorem tab_pDerive_ok:TabOk Tryz.prog S tab_pDerive:=⟨pDerive.ok,by kernel_rfl,tab_r6Derive_ok⟩
end Go.Aw.W
