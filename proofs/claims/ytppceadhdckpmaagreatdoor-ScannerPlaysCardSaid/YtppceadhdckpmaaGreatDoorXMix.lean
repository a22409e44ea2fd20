/- The plain laws of the block cipher, tags, derived keys, resolvable addresses (own work). -/
import Derived.Test.YtppceadhdckpmaaGreatDoorXOctA
import Derived.Test.YtppceadhdckpmaaGreatDoorXAddrA
import Derived.Test.YtppceadhdckpmaaGreatDoorXW11
set_option linter.unusedVariables false
set_option maxRecDepth 4000
namespace Go.Aw.W
open Go Go.Aw Go.Proofs
attribute [local irreducible] kRound r5Round r5Low
def U64 (n:Int): Prop:=0≤n∧n < 18446744073709551616
def U32 (n:Int): Prop:=0≤n∧n < 4294967296
theorem u64w (n:Int): U64 (IntKind.wrap .u64 n):= by have:=wu64s n;unfold U64;omega
theorem u32w (n:Int): U32 (IntKind.wrap .u32 n):= by have:=wu32s n;unfold U32;omega
theorem bor_comm (k:IntKind) (a b:Int): borK k a b=borK k b a:=by unfold borK;rw [BitVec.or_comm]
theorem rot32 (x n:Int) (h0:0≤n) (h1:n < 32): rotl32 x n=r5Turn x n:=by
 unfold rotl32 r5Turn
 rw [wu64 n h0 (by omega),band_low (n:=5) rfl h0 (by rw [p64];omega) (by decide) (by decide),show (2:Int) ^ 5=32 by decide,Int.emod_eq_of_lt h0 h1,wu64 _ (by omega) (by omega),wi64 _ (by omega) (by omega)]
theorem rot64 (x n:Int) (h0:0≤n) (h1:n < 64): rotl64 x n=borK .u64 (shlK .u64 x n) (shrK .u64 x (IntKind.wrap .i64 (64 - n))):= by
 unfold rotl64
 rw [wu64 n h0 (by omega),band_low (n:=6) rfl h0 (by rw [p64];omega) (by decide) (by decide),show (2:Int) ^ 6=64 by decide,Int.emod_eq_of_lt h0 h1,wu64 _ (by omega) (by omega),wi64 _ (by omega) (by omega)]
theorem low32 (x:Int) (h:U64 x): sLow x 32=x % 4294967296:=by
 unfold sLow
 rw [show decide ((32:Int)≤0)= false by decide,show decide ((64:Int)≤32)= false by decide,cond_false,cond_false,show IntKind.wrap .u64 (shlK .u64 1 32 - 1)= 4294967295 by decide]
 exact band_low (n:=32) rfl h.1 (by rw [p64];exact h.2) (by decide) (by decide)
theorem turn_eq (i:Int) (h0:0≤i) (h1:i < 8): Int.tmod (IntKind.wrap .i64 ((11:Int)* Int.tmod i 64)) 64=11*i % 64∧Int.tmod (IntKind.wrap .i64 (IntKind.wrap .i64 (Int.tmod i 64+64)* 11)) 64=11*i % 64:=by
 rw [Int.tmod_eq_emod_of_nonneg h0,Int.emod_eq_of_lt h0 (by omega),wi64 (11*i) (by omega) (by omega),wi64 (i+64) (by omega) (by omega),wi64 ((i+64)* 11) (by omega) (by omega),Int.tmod_eq_emod_of_nonneg (by omega),Int.tmod_eq_emod_of_nonneg (by omega)]
 omega
end Go.Aw.W
namespace Go.Aw.W
open Go Go.Aw Go.Proofs
theorem low_eq (k i:Int) (hk:U64 k) (h0:0≤i) (h1:i < 8): IntKind.wrap .u32 (sLow (rotl64 k (Int.tmod (IntKind.wrap .i64 ((11:Int)* Int.tmod i 64)) 64)) 32)= r5Low k i:=by
 obtain ⟨e1,e2⟩:= turn_eq i h0 h1
 unfold r5Low
 rw [e1,e2]
 have ht0:0≤11*i % 64:=by omega
 have ht1:11*i % 64 < 64:=by omega
 generalize 11*i % 64=t at *
 by_cases hz:0 < t
 ·rw [decide_eq_true hz,cond_true,rot64 k t ht0 ht1]
  have hR:U64 (borK .u64 (shlK .u64 k t) (shrK .u64 k (IntKind.wrap .i64 (64 - t)))):= u64w _
  rw [low32 _ hR,Int.tmod_eq_emod_of_nonneg hR.1]
 ·have ht:t=0:=by omega
  subst ht
  rw [show decide ((0:Int) < 0)= false by decide,cond_false]
  have hr:rotl64 k 0=k:=by
   rw [rot64 k 0 (by decide) (by decide),show IntKind.wrap .i64 (64 - 0)= 64 by decide,shl_eq rfl k (by decide) (by decide),shr_eq k (by decide) (by decide),p64]
   have e:k / 2 ^ (64:Int).toNat=0:=by
    rw [show (2:Int) ^ (64:Int).toNat=18446744073709551616 by decide];exact Int.ediv_eq_zero_of_lt hk.1 hk.2
   have e2:k*2 ^ (0:Int).toNat % 18446744073709551616=k:=by
    rw [show (2:Int) ^ (0:Int).toNat=1 by decide,Int.mul_one];exact Int.emod_eq_of_lt hk.1 hk.2
   rw [e,e2]
   have:=bor_add (k:=.u64) rfl (a:=k) (b:=0) (n:=64) hk.1 (by rw [show (2:Int) ^ 64=18446744073709551616 by decide];exact hk.2) (by decide) (by decide) (by decide)
   simpa using this
  rw [hr,low32 k hk,Int.tmod_eq_emod_of_nonneg hk.1]
theorem round_eq (k i h:Int) (hk:U64 k) (h0:0≤i) (h1:i < 8): kRound k i h=r5Round k i h:=by
 unfold kRound r5Round
 rw [low_eq k i hk h0 h1,rot32 _ 7 (by decide) (by decide),rot32 _ 16 (by decide) (by decide)]
theorem mix_go (k p q:Int) (hk:U64 k): ∀(n:Nat) (i a b:Int),0≤i→i≤8→(8 - i).toNat < n→U32 a→U32 b→kMix.go k p n i a b=r5Mix.go k q n i a b
 | 0,i,a,b,h0,h1,h2,ha,hb=>by omega
 | n+1,i,a,b,h0,h1,h2,ha,hb=>by
  unfold kMix.go r5Mix.go
  by_cases hi:i < 8
  ·simp only [hi,decide_true,cond_true]
   rw [wi64 (i+(1:Int)) (by omega) (by omega),round_eq k i b hk h0 hi]
   exact mix_go k p q hk n (i+1) b _ (by omega) (by omega) (by omega) hb (u32w _)
  ·simp only [hi,decide_false,cond_false]
   obtain ⟨a0,a1⟩:= ha
   obtain ⟨b0,b1⟩:= hb
   rw [wu64 a a0 (by omega),wu64 b b0 (by omega),bor_comm,shl_eq rfl a (by decide) (by decide),p64,show (2:Int) ^ (32:Int).toNat=4294967296 by decide,Int.emod_eq_of_lt (by omega) (by omega)]
   have:=bor_add (k:=.u64) rfl (a:=b) (b:=a) (n:=32) b0 (by rw [show (2:Int) ^ 32=4294967296 by decide];exact b1) a0 (by rw [p64,show (2:Int) ^ 32=4294967296 by decide];omega) (by decide)
   rw [show (2:Int) ^ 32=4294967296 by decide] at this
   rw [this,wu64 (a*4294967296) (by omega) (by omega),wu64 _ (by omega) (by omega)]
   omega
theorem mix_eq (k x:Int) (hk:U64 k) (hx:U64 x): kMix k x=r5Mix k x:=by
 unfold kMix r5Mix
 obtain ⟨x0,x1⟩:= hx
 rw [shr_eq x (by decide) (by decide),show (2:Int) ^ (32:Int).toNat=4294967296 by decide,low32 x ⟨x0,x1⟩,Int.tdiv_eq_ediv_of_nonneg x0,Int.tmod_eq_emod_of_nonneg x0,wu64 (x / 4294967296) (by omega) (by omega)]
 exact mix_go k x x hk _ _ _ _ (by decide) (by decide) (by decide) (u32w _) (u32w _)
theorem mix_range_go (k q:Int): ∀(n:Nat) (i a b:Int),U64 (r5Mix.go k q n i a b)
 | 0,i,a,b=>by unfold r5Mix.go;exact ⟨by decide,by decide⟩
 | n+1,i,a,b=>by
  unfold r5Mix.go
  cases decide (i < 8)
  ·exact u64w _
  ·exact mix_range_go k q n _ _ _
theorem mix_range (k x:Int): U64 (r5Mix k x):= mix_range_go k x _ _ _ _
attribute [local irreducible] kMix r5Mix
theorem grpN_val (c:List Int) (hc:Bytes c): ∀i:Nat,i≤c.length→i≤8→grpN c i=val8 (c.take i)
 | 0,_,_=>by simp [grpN,val8]
 | i+1,h0,h1=>by
  rw [grpN,grpN_val c hc i (by omega) (by omega)]
  have:=byte_or c hc (i:Int) (by omega) (by omega) (by omega)
  rwa [show ((i:Int)).toNat=i by omega,show ((i:Int)+ 1).toNat=i+1 by omega] at this
theorem grpJ_val (b:List Int) (hb:Bytes b) (j:Nat) (hj:8*j < b.length): grpJ b j=val8 ((b.drop (8*j)).take (min 8 (b.length - 8*j))):= by
 unfold grpJ
 exact grpN_val _ (hb.drop _) _ (by rw [List.length_drop];omega) (by omega)
theorem tag_go (k:Int) (b:List Int) (hk:U64 k) (hb:Bytes b) (hl:b.length≤4611686018427387904): ∀(n j:Nat) (y:Int),j≤(b.length+7) / 8→b.length+8 - 8*j < n→U64 y→
  r6Tag.go k b n ((8*j:Nat): Int) y=((List.range' j ((b.length+7) / 8 - j)).map (grpJ b)).foldl (fun x g=>kMix k (bxorK .u64 x g)) y
 | 0,j,y,h1,h2,hy=>by omega
 | n+1,j,y,h1,h2,hy=>by
  unfold r6Tag.go
  by_cases hj:8*j < b.length
  ·have hj':((8*j:Nat): Int) < (b.length:Int):= by omega
   rw [decide_eq_true hj',cond_true,wi64 (((8*j:Nat): Int)+ 8) (by omega) (by omega),minI_eq]
   obtain ⟨m,hm⟩: ∃m,(b.length+7) / 8 - j=m+1:=⟨(b.length+7) / 8 - j - 1,by omega⟩
   rw [hm,List.range'_succ,List.map_cons,List.foldl_cons]
   have hm2:m=(b.length+7) / 8 - (j+1):= by omega
   have e1:List.drop ((8*j:Nat): Int).toNat (List.take (min (((8*j:Nat): Int)+ 8) (b.length:Int)).toNat b)= (b.drop (8*j)).take (min 8 (b.length - 8*j)):= by
    rw [List.drop_take]
    congr 1
    omega
   rw [e1,r2Value_eq _ ((hb.drop _).take _) (by rw [List.length_take];omega),←grpJ_val b hb j hj,hm2,←mix_eq k (bxorK .u64 y (grpJ b j)) hk (u64w _)]
   have e2:(((8*j:Nat): Int)+ 8)= ((8*(j+1): Nat): Int):= by omega
   rw [e2]
   exact tag_go k b hk hb hl n (j+1) _ (by omega) (by omega) (by rw [mix_eq k (bxorK .u64 y (grpJ b j)) hk (u64w _)];exact mix_range _ _)
  ·have hj' : ¬((8*j:Nat): Int) < (b.length:Int):= by omega
   rw [decide_eq_false hj',cond_false,show (b.length+7) / 8 - j=0 by omega]
   rfl
theorem tag_eq (k:Int) (b:List Int) (hk:U64 k) (hb:Bytes b) (hl:b.length≤4611686018427387904): kTag k b=r6Tag k b:=by
 unfold kTag r6Tag tagF grps
 have hx:U64 (b.length:Int):= ⟨by omega,by omega⟩
 have:=tag_go k b hk hb hl (b.length+9) 0 (r5Mix k (b.length:Int)) (by omega) (by omega) (mix_range _ _)
 rw [wu64 _ hx.1 hx.2]
 rw [show ((8*0:Nat): Int)= 0 by decide,Nat.sub_zero] at this
 rw [this,List.range_eq_range',mix_eq k _ hk hx]
theorem tag_range_go (k:Int) (b:List Int): ∀(n:Nat) (i y:Int),U64 y→U64 (r6Tag.go k b n i y)
 | 0,i,y,h=>by unfold r6Tag.go;exact ⟨by decide,by decide⟩
 | n+1,i,y,h=>by
  unfold r6Tag.go
  cases decide (i < (b.length:Int))
  ·exact h
  ·exact tag_range_go k b n _ _ (mix_range _ _)
theorem tag_range (k:Int) (b:List Int): U64 (r6Tag k b):= tag_range_go k b _ _ _ (mix_range _ _)
attribute [local irreducible] r6Tag kTag
theorem derive_step (k:Int) (label:ByteArray) (parts:List Int) (n:Nat) (i:Int) (out:List Int): r6Derive.go k label parts (n+1) i out=cond (decide (i < (parts.length:Int))) (r6Derive.go k label parts n (IntKind.wrap IntKind.i64 (i+(1:Int))) (out ++ r2Num (8:Int) (List.getD parts (Int.toNat i) (0:Int)))) (r6Tag k out):= rfl
theorem derive_go (k:Int) (label:ByteArray) (parts:List Int) (hl:parts.length≤1099511627776) (hp : ∀v∈parts,U64 v) (n:Nat): ∀(i:Int) (out:List Int),0≤i→i≤parts.length→(parts.length - i).toNat < n→r6Derive.go k label parts n i out=r6Tag k (out ++ (parts.drop i.toNat).flatMap (num8 8)):= by
 induction n with
 | zero=>intro i out h0 h1 h2;omega
 | succ n ih =>
  intro i out h0 h1 h2
  rw [derive_step]
  by_cases hi:i < parts.length
  ·rw [decide_eq_true hi,cond_true]
   have hlt:i.toNat < parts.length:=by omega
   have hv:U64 (parts.getD i.toNat 0):= by
    have e:parts.getD i.toNat 0=parts[i.toNat]:= by simp [List.getD,List.getElem?_eq_getElem hlt]
    rw [e];exact hp _ (List.getElem_mem _)
   rw [wi64 (i+(1:Int)) (by omega) (by omega),ih (i+1) _ (by omega) (by omega) (by omega),r2Num_eq 8 _ (by decide) hv.1 hv.2,getD_drop parts 0 i h0 hi,List.flatMap_cons,List.append_assoc,show (8:Int).toNat=8 by decide]
  ·rw [decide_eq_false hi,cond_false,List.drop_of_length_le (by omega),List.flatMap_nil,List.append_nil]
theorem bytesI_bytes (s:ByteArray): Bytes (bytesI s):= by
 intro x hx
 obtain ⟨b,_,rfl⟩:= List.mem_map.1 hx
 have:=b.toNat_lt
 omega
theorem flat_bytes (parts:List Int): Bytes (parts.flatMap (num8 8)):= by
 intro x hx
 obtain ⟨v,_,hv⟩:= List.mem_flatMap.1 hx
 exact num8_bytes _ _ x hv
theorem flat_len (parts:List Int): (parts.flatMap (num8 8)).length=8*parts.length:=by
 induction parts with
 | nil=>rfl
 | cons a l ih=>rw [List.flatMap_cons,List.length_append,num8_len,ih,List.length_cons];omega
theorem derive_eq (k:Int) (label:ByteArray) (parts:List Int) (hk:U64 k) (hs:(bytesI label).length≤1099511627776) (hl:parts.length≤1099511627776) (hp : ∀v∈parts,U64 v): pDerive k label parts=r6Derive k label parts:=by
 unfold pDerive r6Derive
 rw [derive_go k label parts hl hp _ _ _ (by omega) (by omega) (by omega),oJoin_eq _ (by simp),mBytes_eq parts hl hp]
 have e:[bytesI label,[(0:Int)],parts.flatMap (num8 8)].flatten=bytesI label ++ [0]++ (parts.drop (0:Int).toNat).flatMap (num8 8):= by simp
 rw [e]
 refine tag_eq k _ hk ?_ ?_
 ·intro x hx
  simp only [List.mem_append,List.mem_singleton] at hx
  rcases hx with (hx | rfl)| hx
  ·exact bytesI_bytes label x hx
  ·exact ⟨by decide,by decide⟩
  ·exact flat_bytes _ x hx
 ·simp only [List.length_append,List.length_singleton,flat_len]
  simp
  omega
theorem derive_range_go (k:Int) (label:ByteArray) (parts:List Int) (n:Nat): ∀(i:Int) (out:List Int),U64 (r6Derive.go k label parts n i out):= by
 induction n with
 | zero=>intro i out;show U64 0;exact ⟨by decide,by decide⟩
 | succ n ih =>
  intro i out
  rw [derive_step]
  by_cases hi:i < (parts.length:Int)
  ·rw [decide_eq_true hi,cond_true];exact ih _ _
  ·rw [decide_eq_false hi,cond_false];exact tag_range k out
theorem derive_range (k:Int) (label:ByteArray) (parts:List Int): U64 (r6Derive k label parts):= derive_range_go k label parts _ _ _
attribute [local irreducible] r6Derive pDerive
theorem hash_eq (k n:Int) (hk:U64 k) (hn:U64 n): pHash k n=r9Hash k n:=by
 unfold pHash r9Hash
 rw [derive_eq k _ [n] hk (by decide) (by simp) (by intro v hv;simp only [List.mem_singleton] at hv;subst hv;exact hn)]
 have:=derive_range k {data:=#[(114:UInt8),(112:UInt8),(97:UInt8)]: ByteArray} [n]
 rw [band_low (n:=24) rfl this.1 (by rw [p64];exact this.2) (by decide) (by decide),Int.tmod_eq_emod_of_nonneg this.1]
 rfl
theorem resolves_eq (k:Int) (a:Address) (hk:U64 k) (ha:HasA a): pResolves k a=r9Resolves k a:=by
 unfold pResolves r9Resolves
 have h0:=ha.1
 have h1:=ha.2
 rw [aCheck_eq a ha,band_low (n:=24) rfl h0 (by rw [p64];exact h1) (by decide) (by decide),shr_eq a.Bits (by decide) (by decide),Int.tmod_eq_emod_of_nonneg h0,Int.tdiv_eq_ediv_of_nonneg h0]
 rw [show (2:Int) ^ (24:Int).toNat=16777216 by decide,show (2:Int) ^ 24=16777216 by decide,wu64 (a.Bits / 16777216) (by omega) (by omega)]
 rw [band_low (n:=22) rfl (by omega) (by rw [p64];omega) (by decide) (by decide),Int.tmod_eq_emod_of_nonneg (by omega),show (2:Int) ^ 22=4194304 by decide,hash_eq k _ hk ⟨by omega,by omega⟩]
theorem idx_go (list:List Identity) (a:Address) (ha:HasA a) (hi : ∀x∈list,U64 x.IRK): ∀(n:Nat) (i:Int),0≤i→i≤list.length→(list.length - i).toNat < n→list.length≤4611686018427387904→fIdx.go list a n i=r9Find.go list a n i
 | 0,i,h0,h1,h2,hl=>by omega
 | n+1,i,h0,h1,h2,hl=>by
  unfold fIdx.go r9Find.go
  by_cases h:i < list.length
  ·have hlt:i.toNat < list.length:=by omega
   have hv:U64 (list.getD i.toNat Identity.zero).IRK:=by
    have e:list.getD i.toNat Identity.zero=list[i.toNat]:= by simp [List.getD,List.getElem?_eq_getElem hlt]
    rw [e];exact hi _ (List.getElem_mem _)
   simp only [h,decide_true,cond_true]
   rw [resolves_eq _ a hv ha,wi64 (i+(1:Int)) (by omega) (by omega),idx_go list a ha hi n (i+1) (by omega) (by omega) (by omega) hl]
  ·simp only [h,decide_false,cond_false]
theorem find_eq (list:List Identity) (a:Address) (ha:HasA a) (hi : ∀x∈list,U64 x.IRK) (hl:list.length≤4611686018427387904): pFind list a=r9Find list a:=by
 unfold pFind r9Find fIdx
 rw [aCheck_eq a ha,idx_go list a ha hi _ _ (by omega) (by omega) (by omega) hl]
end Go.Aw.W
