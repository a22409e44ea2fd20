/- The tag: a range over an iterator (own work). -/
import Derived.Test.YtppceadhdckpmaaGreatDoorXW5
import Derived.RangeFuncFrom
import Derived.RangeFuncBox
import Derived.RangeFuncLeaves
import Derived.RangeFuncCalls
import Derived.Shelf.Abstract
import Derived.WalkKit
import Derived.OwnWalkIn
import Derived.TacticsInMore
import Derived.TacticsIn
import Derived.RegionIn
import Derived.LoopNIn
import Derived.LoopIn
set_option linter.unusedVariables false
namespace Go.Proofs
open Go.RowKit Go.Shelf Go.Aw Go.Aw.W
attribute [local go_sem] Oper.semAt_some
theorem box_v {W:World} {b:Nat} {t:TypeId} {v:Value} (h:W.heap[b]? = some (.cells #[v] t (0,0))): W.cell? ⟨b,0,none⟩= some v∧W.frozen? ⟨b,0,none⟩= false:=⟨(show Boxed W b t v from h).cell,(show Boxed W b t v from h).frozen⟩
def grpN (c:List Int): Nat→Int
 | 0=>0
 | i+1=>borK .u64 (grpN c i) (shlK .u64 (IntKind.wrap .u64 (c.getD i 0)) (IntKind.wrap .i64 (8*(i:Int))))
def grpJ (xs:List Int) (j:Nat): Int:=grpN (xs.drop (8*j)) (min 8 (xs.length - 8*j))
def grps (xs:List Int) (n:Nat): List Int:=(List.range n).map (grpJ xs)
theorem grpN_step (c:List Int) (k:Nat) (h:k < 8): bits BinOp.or IntKind.u64 (grpN c k) (IntKind.u64.wrap (IntKind.u64.wrap (c.getD k 0)* 2 ^ (8*k)))= grpN c (k+1):= by
 show _=borK .u64 (grpN c k) (shlK .u64 (IntKind.wrap .u64 (c.getD k 0)) (IntKind.wrap .i64 (8*(k:Int))))
 have e:shlK .u64 (IntKind.wrap .u64 (c.getD k 0)) (IntKind.wrap .i64 (8*(k:Int)))= IntKind.u64.wrap (IntKind.u64.wrap (c.getD k 0)* 2 ^ (8*k)):= by
  unfold shlK
  rw [wi64 _ (by omega) (by omega)]
  have:min (8*(k:Int)).toNat IntKind.u64.bits=8*k:=by
   show min (8*(k:Int)).toNat 64=_
   omega
  rw [this]
 rw [e]
 rfl
theorem grps_succ (xs:List Int) (n:Nat): grps xs (n+1)= grps xs n ++ [grpJ xs n]:= by simp [grps,List.range_succ]
set_option maxRecDepth 100000 in
set_option maxHeartbeats 1000000 in
theorem groups1_in (F:Fence) (n:Nat) (h6:F.fn 92) (hro:F.round=none) (hn:1≤n) (l Bn X b off cap:Nat) (p0:Option Addr) (xs:List Int) (hX:Bn≠X) (hbX:0 < xs.length→b≠X) (hlen:xs.length≤4611686018427387904) (J Jx:List Int→World→Prop)
  (hY : ∀pre x W,J pre W→pre.length < xs.length+1→YieldAt F (n - 1) Tryz.prog l #[.int .u64 x] W fun e W' =>
   (e = .returned (.bool true)∧J (pre ++ [x]) W'∧∀a u,a.block≠X→W.cell? a=some u→W'.cell? a=some u)∨(e = .returned (.bool false)∧Jx (pre ++ [x]) W'))
  (W:World) (hBn:W.cell? ⟨Bn,0,none⟩= some (.slice p0 xs.length cap)) (hL : ∀j,j < xs.length→W.cell? ⟨b,off+j,none⟩= some (.int .u8 (xs.getD j 0))) (hcap:xs.length≤cap) (hp0:0 < xs.length→p0=some ⟨b,off,none⟩) (h0:J [] W):
  CallsIn F n Tryz.prog 92 #[.func (.yield l) #[] #[], .pointer (some ⟨Bn,0,none⟩)] W fun e W'=>(∃v,e = .returned v)∧
   ((∃ys,ys=grps xs ((xs.length+7) / 8)∧J ys W')∨(∃pre,True∧Jx pre W')):= by
 refine callsIn_of_wp Tryz.func92 rfl h6 ?_ hro
 simp only [Tryz.ntmps92,List.size_toArray,List.length_cons,List.length_nil,Nat.reduceAdd,Nat.reduceSub,Array.replicate_succ,Array.replicate_zero,List.push_toArray,List.append_toArray,List.nil_append,List.cons_append]
 gi_wp2
 gi_loopw [3] (fun p wr => ∃j:Nat,j≤(xs.length+7) / 8∧p = .int .i64 (8*j:Nat)∧wr.cell? ⟨Bn,0,none⟩= some (.slice p0 xs.length cap)∧(∀j,j < xs.length→wr.cell? ⟨b,off+j,none⟩= some (.int .u8 (xs.getD j 0)))∧J (grps xs j) wr)
  (fun p wr=>match p with | .int _ a=>xs.length+8 - a.toNat | _=>0)
 case atStart =>
  exact ⟨0,Nat.zero_le _,rfl,hBn,hL,h0⟩
 case round =>
  obtain ⟨j,hj,rfl,hB,hC,hJ⟩:= hrel
  have hm8:((8*j:Nat): Int)= 8*(j:Int):= by omega
  by_cases hd:8*j < xs.length
  ·obtain rfl:=hp0 (by omega)
   gi_wp2
   all_goals (first
    | (obtain ⟨m,hm⟩: ∃m:Nat,(8*(j:Int)+ 8).toNat - 8*j=m:=⟨_,rfl⟩;rw [hm];have hm':m≤8∧8*j+m≤xs.length∧(m=8∨8*j+m=xs.length):= by omega)
    | (obtain ⟨m,hm⟩: ∃m:Nat,xs.length - 8*j=m:=⟨_,rfl⟩;rw [hm];have hm':m≤8∧8*j+m≤xs.length∧(m=8∨8*j+m=xs.length):= by omega)
    | trace_state)
   all_goals
    clear hm
    gi_loopw [4,22] (fun x i wr' => ∃k:Nat,k≤m∧i = .int .i64 k∧x = .int .u64 (grpN (xs.drop (8*j)) k)∧wr'=wr) (fun x i _=>match i with | .int _ a=>m - a.toNat | _=>0)
    case atStart=>exact ⟨0,Nat.zero_le _,rfl,rfl,rfl⟩
    case round =>
     obtain ⟨k,hk,rfl,rfl,rfl⟩:= hrel
     by_cases hkm:k < m
     ·have hc1:=hC (8*j+k) (by omega)
      rw [←Nat.add_assoc] at hc1
      gi_wp2
      have hs:=grpN_step (xs.drop (8*j)) k (by omega)
      have hg:(xs.drop (8*j)).getD k 0=xs[8*j+k]?.getD 0:=by simp [List.getD,List.getElem?_drop]
      rw [hg] at hs
      refine ⟨⟨k+1,by omega,by simp,by rw [hs],trivial⟩, ?_⟩
      dsimp only
      omega
     ·obtain rfl:k=m:=by omega
      have hx:grpN (xs.drop (8*j)) k=grpJ xs j:=by unfold grpJ;rw [show min 8 (xs.length - 8*j)= k by omega]
      have hlJ:(grps xs j).length=j:=by simp [grps]
      obtain ⟨fn,tmps,assign,body,hy,hR⟩:= hY (grps xs j) (grpJ xs j) wr hJ (by omega)
      rw [hx]
      gi_wp2
      refine hR.mono ?_
      rintro e W3 (⟨rfl,hJ3,hk3⟩| ⟨rfl,hJx3⟩)
      ·gi_wp2
       refine ⟨⟨j+1,by omega,by congr 1,hk3 _ _ hX hB,fun q hq=>hk3 _ _ (hbX (by omega)) (hC q hq), ?_⟩, ?_⟩
       ·rw [grps_succ];exact hJ3
       ·dsimp only;omega
      ·gi_wp2
       refine bodyPost_ret (results_none rfl _ _ _) rfl ?_
       exact ⟨⟨_,rfl⟩, .inr ⟨_,trivial,hJx3⟩⟩
  ·have hje:j=(xs.length+7) / 8:=by omega
   gi_wp2
   go_end0
   exact ⟨⟨_,rfl⟩, .inl ⟨_,rfl,by rw [←hje];exact hJ⟩⟩
set_option maxHeartbeats 1000000 in
theorem groups_in (F:Fence) (n:Nat) (h5:F.fn 82) (hro:F.round=none) (p:Option Addr) (m c:Nat) (w:World):
  CallsIn F n Tryz.prog 82 #[.slice p m c] w fun e w'=>e = .returned (.func (.func 92) #[] #[.pointer (some ⟨w.heap.size,0,none⟩)])∧w'=w.alloc (.cells #[.slice p m c] 40):= by
 refine callsIn_of_wp Tryz.func82 rfl h5 ?_ hro
 simp only [Tryz.ntmps82,List.size_toArray,List.length_cons,List.length_nil,Nat.reduceAdd,Nat.reduceSub,Array.replicate_succ,Array.replicate_zero,List.push_toArray,List.append_toArray,List.nil_append,List.cons_append]
 gi_wp2
 go_ret
 exact ⟨rfl,rfl⟩
def tagF (mix:Int→Int→Int) (k:Int) (xs:List Int): Int:=(grps xs ((xs.length+7) / 8)).foldl (fun x g=>mix k (bxorK .u64 x g)) (mix k (xs.length:Int))
set_option maxRecDepth 100000 in
set_option maxHeartbeats 2000000 in
theorem tag_in (mix:Int→Int→Int) (n:Nat) (hn:3≤n) (k:Int) (p0:Option Addr) (b off cap:Nat) (xs:List Int) (hlen:xs.length≤4611686018427387904) (w:World) (hL : ∀j,j < xs.length→w.cell? ⟨b,off+j,none⟩= some (.int .u8 (xs.getD j 0))) (hcap:xs.length≤cap) (hp0:0 < xs.length→p0=some ⟨b,off,none⟩)
  (hmix : ∀W x,Below w.heap.size w W→Calls Tryz.prog 81 #[.int .u64 k, .int .u64 x] W fun e W'=>e = .returned (.int .u64 (mix k x))∧Below W.heap.size W W'):
  CallsIn Fence.wide n Tryz.prog 68 #[.int .u64 k, .slice p0 xs.length cap] w fun e W'=>e = .returned (.int .u64 (tagF mix k xs))∧Below w.heap.size w W':=by
 have h1:1≤n:=by omega
 refine callsIn_of_wp_marks Tryz.func68 rfl trivial ?_ rfl
 simp only [Tryz.ntmps68,List.size_toArray,List.length_cons,List.length_nil,Nat.reduceAdd,Nat.reduceSub,Array.replicate_succ,Array.replicate_zero,List.push_toArray,List.append_toArray,List.nil_append,List.cons_append]
 have hBa:Below w.heap.size w (w.alloc (.cells #[.int .u64 k] 86)):= (Below.refl _ w).alloc (Nat.le_refl _) _
 gi_wp2_with (first | (refine ⟨trivial, ?_⟩;gi_at_call 81;refine (callsIn_wide.2 (hmix _ _ hBa)).mono ?_;rintro e w1 ⟨rfl,hb1⟩)| (refine ⟨trivial, ?_⟩;gi_at_call 82;refine (groups_in _ _ trivial rfl _ _ _ _).mono ?_;rintro e w' ⟨rfl,rfl⟩))
 have hB1:Below w.heap.size w w1:=hBa.trans (hb1.mono (by simp))
 have hs1:w.heap.size+1≤w1.heap.size:=by have:=hb1.size;simpa using this
 have hK1:w1.heap[w.heap.size]? = some (.cells #[.int .u64 k] 86 (0,0)):= (hb1.block _ (by simp)).trans (World.alloc_heap_new w _)
 obtain ⟨W0,hW0⟩: ∃W0,(w1.alloc (.cells #[.int .u64 (mix k (xs.length:Int))] 24)).alloc (.cells #[.slice p0 xs.length cap] 40)= W0:=⟨_,rfl⟩
 have hs0:W0.heap.size=w1.heap.size+2:=by rw [←hW0];simp
 have hBW1:Below w1.heap.size w1 W0:=by rw [←hW0];exact ((Below.refl _ _).alloc (Nat.le_refl _) _).alloc (by simp) _
 have hBW:Below w.heap.size w W0:=hB1.trans (hBW1.mono (by omega))
 have hK0:W0.heap[w.heap.size]? = some (.cells #[.int .u64 k] 86 (0,0)):= (hBW1.block _ (by omega)).trans hK1
 have hX0:W0.heap[w1.heap.size]? = some (.cells #[.int .u64 (mix k (xs.length:Int))] 24 (0,0)):= by
  rw [←hW0];exact (Below.heap_alloc _ _ _ (by simp)).trans (World.alloc_heap_new w1 _)
 have hN0:W0.heap[w1.heap.size+1]? = some (.cells #[.slice p0 xs.length cap] 40 (0,0)):= by
  rw [←hW0];have:=World.alloc_heap_new (w1.alloc (.cells #[.int .u64 (mix k (xs.length:Int))] 24)) (.cells #[.slice p0 xs.length cap] 40);rwa [World.size_alloc] at this
 have hcell : ∀j,j < xs.length→b < w.heap.size:=fun j hj=>by
  have:=hL j hj
  by_cases hb:b < w.heap.size
  ·exact hb
  ·simp [World.cell?,Array.getElem?_eq_none (Nat.le_of_not_lt hb)] at this
 rw [hW0]
 refine wpIn_rangeFunc_ownF rfl h1 (gf:=92) (lb:=#[.pointer (some ⟨w1.heap.size+1,0,none⟩)]) rfl trivial (enters_of Tryz.func92 (by kernel_rfl) rfl)
  (encs:=fun x:Int => #[.int .u64 x]) (Kp:=fun A B => ∀a u,a.block≠w1.heap.size→A.cell? a=some u→B.cell? a=some u) (S:=fun ys=>ys=grps xs ((xs.length+7) / 8)) (Sp:=fun _=>True) (N:=xs.length+1) (w0:=W0)
  (fun l J Jx W hW _ _ hY h0=>(groups1_in Fence.wide (n - 1) trivial rfl (by omega) l (w1.heap.size+1) w1.heap.size b off cap p0 xs (by omega) (fun hx=>by have:=hcell 0 hx;omega) hlen J Jx hY W
   ((hW.cell (p:=⟨w1.heap.size+1,0,none⟩) (by rw [hs0];show w1.heap.size+1 < _;omega)).trans (box_v hN0).1)
   (fun j hj=>(hW.cell (p:=⟨b,off+j,none⟩) (by have:=hcell j hj;rw [hs0];show b < _;omega)).trans ((hBW.cell (p:=⟨b,off+j,none⟩) (hcell j hj)).trans (hL j hj))) hcap hp0 h0))
  (fun h k a u ha hu=>k a u ha (h a u ha hu)) ?kb (Below.refl _ _) (fun _=>rfl)
  (fun pre W=>(W.cell? ⟨w1.heap.size,0,none⟩= some (.int .u64 (pre.foldl (fun x g=>mix k (bxorK .u64 x g)) (mix k (xs.length:Int))))∧W.frozen? ⟨w1.heap.size,0,none⟩= false∧W.cell? ⟨w.heap.size,0,none⟩= some (.int .u64 k))∧Below w.heap.size w W)
  (fun c pre W=>False∧Below w.heap.size w W)
  (OwnFrom.and (Own.from (fun s A B row hs hg hr=>⟨cell_kept hs.1 hg hr,(frozen_kept hs.1 hg hr).trans hs.2.1,cell_kept hs.2.2 hg hr⟩) _) (ownFrom_below (Nat.le_refl _) (by omega)))
  (fun c=>OwnFrom.and (Own.from (fun s A B row hs hg hr=>hs) _) (ownFrom_below (Nat.le_refl _) (by omega)))
  ⟨⟨(box_v hX0).1,(box_v hX0).2,(box_v hK0).1⟩,hBW⟩
  (fun x=>{tmps:=#[.int .u64 k, .slice p0 xs.length cap, .pointer (some ⟨w.heap.size,0,none⟩),undef, .int .u64 0, .pointer (some ⟨w1.heap.size,0,none⟩), .int .u64 x, .int .u64 k, .slice p0 xs.length cap, .int .i64 xs.length, .int .u64 xs.length, .int .u64 (mix k xs.length), .slice p0 xs.length cap, .func (.func 92) #[] #[.pointer (some ⟨w1.heap.size+1,0,none⟩)], .int .u64 x,undef,undef,undef,undef,undef,undef],defers:=[]}) ?assign ?body ?done ?stop
 case kb =>
  intro W l o o' _ ho hc _ a u _ hu
  obtain ⟨o2,ho2,hc2⟩:= cells_of_cell hu
  have hne:a.block≠l:=fun e=>by rw [e,ho] at ho2;cases ho2;rw [hc] at hc2;cases hc2
  exact (World.cell?_of_block (w:=W) (World.putObj_heap_other hne)).trans hu
 case assign =>
  intro l x W K hK
  gi_wp2
  exact hK
 case body =>
  rintro l pre x W ⟨⟨hc,hf,hk⟩,hB⟩ _
  have hXs:w1.heap.size < W.heap.size:=by
   obtain ⟨o2,ho2,_⟩:= cells_of_cell hc
   exact (Array.getElem?_eq_some_iff.1 ho2).1
  have fact : ∀W2,Below W.heap.size W W2→W2.cell? ⟨w1.heap.size,0,none⟩= some (.int .u64 (pre.foldl (fun x g=>mix k (bxorK .u64 x g)) (mix k (xs.length:Int))))∧W2.frozen? ⟨w1.heap.size,0,none⟩= false∧W2.cell? ⟨w.heap.size,0,none⟩= some (.int .u64 k):= fun W2 hb2 =>
   ⟨(hb2.cell (p:=⟨w1.heap.size,0,none⟩) hXs).trans hc,(hb2.frozen (p:=⟨w1.heap.size,0,none⟩) hXs).trans hf,(hb2.cell (p:=⟨w.heap.size,0,none⟩) (by show w.heap.size < _;omega)).trans hk⟩
  gi_wp2_with (refine ⟨trivial,fun h=>by simp [Fence.wide] at h, ?_⟩;refine (CallsIn.inRound l (callsIn_wide.2 (hmix _ _ hB))).mono ?_;rintro e W2 ⟨rfl,hb2⟩;obtain ⟨hc2,hf2,hk2⟩:= fact _ hb2)
  refine ⟨KeepsOthers.trans ⟨hb2.size,fun q o ho _=>(hb2.block q (Array.getElem?_eq_some_iff.1 ho).1).trans ho⟩ (KeepsOthers.setCell _ _ _),fun a u ha hu=>?_,⟨?_, ?_, ?_⟩, ?_⟩
  ·obtain ⟨o2,ho2,_⟩:= cells_of_cell hu
   rw [World.cell?_setCell_other _ _ _ _ (fun e=>ha (congrArg Addr.block e).symm)]
   exact (hb2.cell (Array.getElem?_eq_some_iff.1 ho2).1).trans hu
  ·rw [List.foldl_append]
   exact World.cell?_setCell_same' _ _ _ (by rw [hc2];rfl)
  ·rw [World.frozen?_setCell];exact hf2
  ·rw [World.cell?_setCell_other _ _ _ _ (fun e=>by have:=congrArg Addr.block e;dsimp only at this;omega)];exact hk2
  ·exact (hB.trans (hb2.mono (by omega))).setCell (p:=⟨w1.heap.size,0,none⟩) (by show w.heap.size≤w1.heap.size;omega) _
 case done =>
  rintro D ys W hD rfl ⟨⟨hc,hf,hk⟩,hB⟩ hK
  gi_wp2
  refine ⟨by simp, .inl ⟨_,_,rfl,run_takeDeferred hK, ?_⟩⟩
  have hc5:=cell_kept hc (grownBy_putObj' _ D (.deferred none)) (fun r e=>by cases e;exact ⟨_,hK,rfl⟩)
  refine ⟨.int .u64 (tagF mix k xs), ?_,rfl,hB.trans (belowK_b (w:=w) (Nat.le_refl _) W D _ _ (by omega) hK rfl rfl)⟩
  simp [results,Tryz.f68,go_sem,tagF]
 case stop =>
  rintro D c pre W hD _ ⟨hf,_⟩ _
  exact hf.elim
end Go.Proofs
namespace Go.Aw
theorem Γ.unsl {S:Sig} {env:Env} {w:World} {t:TypeId} {xs:List (S.El t)} {f:Bool} {u:Value} (h:Γ S env w (.sl t xs f) u):
  (∃b off cap,∃val:Nat→Value,u = .slice (some ⟨b,off,none⟩) xs.length cap∧xs.length≤cap∧(∀k,k < xs.length*S.sz t→w.cell? ⟨b,off+k,none⟩= some (val k))∧∀i j,i < xs.length→Γ S env w ((S.cell t (xs.getD i (S.dflt t))).getD j .any) (val (i*S.sz t+j)))∨(xs=[]∧∃p c,u = .slice p 0 c):= by
 cases h with
 | sl _ _ _ b off cap val hf hc hw h=>exact .inl ⟨b,off,cap,val,rfl,hc.1,fun k hk=>(hw k hk).1,h⟩
 | slnil=>exact .inr ⟨rfl,none,0,rfl⟩
 | slemp _ _ a c hf=>exact .inr ⟨rfl,some a,c,rfl⟩
end Go.Aw
namespace Go.Aw.W
open Go Go.Aw Go.Proofs Go.RowKit
theorem mix_raw {B:Nat} {env:Env} {w:World} {H:List (AObj El)} (hI:Inv S B env w H) (k x:Int): Calls Tryz.prog 81 #[.int .u64 k, .int .u64 x] w fun e w'=>e = .returned (.int .u64 (kMix k x))∧Below w.heap.size w w':=by
 refine (kMix.ok [.v (.int .u64 k), .v (.int .u64 x)] _ _ _ rfl (by simp) rfl B env w H [.int .u64 k, .int .u64 x] (G2.cons (.v _) (G2.cons (.v _) .nil)) hI).mono ?_
 rintro e w' ⟨v,env',rfl,hΓ,_,_,hb⟩
 exact ⟨by rw [Γ.unv (x:=.int .u64 (kMix k x)) hΓ],hb⟩
def kTag (k:Int) (b:List Int): Int:=tagF kMix k b
def kTag.dec (cs:List (AV El)): Option (Int×(List Int)):= popI .u64 cs fun a0 c0=>popS 5 c0 fun a1 c1=>popE c1 (a0,a1)
def kTag.enc (x:Int×(List Int)): List (AV El):= [.v (.int .u64 x.1), .sl 5 (x.2:List (El 5)) false]
theorem kTag.dec_ok : ∀cs x,kTag.dec cs=some x→Imp (S:=S) cs (kTag.enc x):= by
 intro cs x h
 unfold kTag.dec at h
 obtain ⟨a0,c0,rfl,h0⟩:= popI_some (S:=S) h
 obtain ⟨a1,c1,h1,k1⟩:= popS_some (S:=S) (t:=5) h0
 obtain ⟨rfl,rfl⟩:= popE_some (S:=S) h1
 exact (.cons (k1 _ (.refl _)))
def kTag.ct:Ct El:=ctOf kTag.dec (fun x=>[x.2.length≤4611686018427387904]) (fun x => .v (.int .u64 (kTag x.1 x.2))) (fun _=>[])
theorem kTag.ok:CtOk (mkCx Tryz.prog S [] 0) 68 kTag.ct:=fun (args:List (AV El)) ps (r:AV El) (news:List (AObj El)) (hct:kTag.ct args=some (ps,r,news)) hp _ B env w (H:List (AObj El)) vals (hg:G2 S env w args vals) (hI:Inv S B env w H)=> by
 have hct:(kTag.dec args).map (fun x=>([x.2.length≤4611686018427387904],AV.v (Value.int .u64 (kTag x.1 x.2)),([]: List (AObj El))))= some (ps,r,news):= hct
 obtain ⟨x,hx,he⟩:= Option.map_eq_some_iff.1 hct
 cases he
 have hlen:x.2.length≤4611686018427387904:=hp _ (List.mem_singleton.2 rfl)
 obtain ⟨u1,us,rfl,h1,hg2⟩:= (kTag.dec_ok _ _ hx env w vals hg).uncons
 obtain ⟨u2,us2,rfl,h2,hg3⟩:= hg2.uncons
 have h3:us2=[]:= List.eq_nil_of_length_eq_zero hg3.1
 subst h3
 cases h1.unv
 have hm : ∀W y,Below w.heap.size w W→Calls Tryz.prog 81 #[.int .u64 x.1, .int .u64 y] W fun e W'=>e = .returned (.int .u64 (kMix x.1 y))∧Below W.heap.size W W':=fun W y hb=>mix_raw (Inv.below (C:=mkCx Tryz.prog S [] 0) hI hb).1 x.1 y
 have fin : ∀e w',(e = .returned (.int .u64 (tagF kMix x.1 x.2))∧Below w.heap.size w w')→∃v env',e=Ending.returned v∧Γ S env' w' (sh2 H.length (.v (.int .u64 (kTag x.1 x.2)))) v∧Inv S B env' w' (H ++ [])∧Ext B H.length env w env' w'∧Below w.heap.size w w':=by
  rintro e w' ⟨rfl,hb⟩
  obtain ⟨i1,i2⟩:= Inv.below (C:=mkCx Tryz.prog S [] 0) hI hb
  exact ⟨_,env,rfl, .v _,(show Inv S B env w' (H ++ ([]: List (AObj El))) from (List.append_nil H).symm ▸ i1),i2,hb⟩
 obtain ⟨k,xs⟩:= x
 rcases Γ.unsl h2 with ⟨b,off,cap,val,rfl,hc,hw,h⟩| ⟨he,p,c,rfl⟩
 ·have hcells : ∀j,j < xs.length→w.cell? ⟨b,off+j,none⟩= some (.int .u8 (xs.getD j 0)):= by
   intro j hj
   have e1:=hw j (by show j < xs.length*1;omega)
   have e2:=h j 0 hj
   have e3:val (j*S.sz 5+0)= .int .u8 (xs.getD j 0):= Γ.unv (x:=.int .u8 (xs.getD j 0)) e2
   have e4:j*S.sz 5+0=j:=by show j*1+0=j;omega
   rw [e4] at e3
   rw [e1,e3]
  exact (callsIn_wide.1 (tag_in kMix 3 (by omega) k (some ⟨b,off,none⟩) b off cap xs hlen w hcells hc (fun _=>rfl) hm)).mono fin
 ·have he:xs=[]:= he
  subst he
  exact (callsIn_wide.1 (tag_in kMix 3 (by omega) k p 0 0 c [] hlen w (fun j hj=>absurd hj (by simp)) (by simp) (fun h=>absurd h (by simp)) hm)).mono fin
def tab_kTag:List (FuncId×Ct El):= (68,kTag.ct):: tab_mBytes
theorem tab_kTag_ok:TabOk Tryz.prog S tab_kTag:=⟨kTag.ok,by kernel_rfl,tab_mBytes_ok⟩
end Go.Aw.W
