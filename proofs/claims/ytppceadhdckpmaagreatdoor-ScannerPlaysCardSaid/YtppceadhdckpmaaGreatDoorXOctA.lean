/- The plain laws of the octets, the part on numbers (own work). -/
import Derived.Test.YtppceadhdckpmaaGreatDoorXAwL
import Derived.Test.YtppceadhdckpmaaGreatDoorXW5
set_option linter.unusedVariables false
namespace Go.Aw.W
open Go Go.Aw Go.Proofs
theorem p64:(2:Int) ^ IntKind.u64.bits=18446744073709551616:=by decide
theorem getD_drop {α:Type} (l:List α) (d:α) (i:Int) (h0:0≤i) (h1:i < l.length): l.drop i.toNat=l.getD i.toNat d::l.drop (i+1).toNat:=by
 have h2:i.toNat < l.length:=by omega
 rw [List.drop_eq_getElem_cons h2,show (i+1).toNat=i.toNat+1 by omega]
 simp [List.getD,List.getElem?_eq_getElem h2]
theorem pow256 (n:Nat): (2:Int) ^ (8*n)= 256 ^ n:=by rw [Int.pow_mul];rfl
theorem pow256_le {n:Nat} (h:n≤8): (256:Int) ^ n≤18446744073709551616:=by
 have h1:256 ^ n≤256 ^ 8:=Nat.pow_le_pow_right (by decide) h
 have h2:((256 ^ n:Nat): Int)≤((256 ^ 8:Nat): Int):= by omega
 rw [Int.natCast_pow] at h2
 exact Int.le_trans h2 (by decide)
def okField (f:Field): Bool:=decide (1≤f.Size∧f.Size≤8∧f.Value < 256 ^ f.Size.toNat)
def putL (out:List Int): List Field→List Int×Int
 | []=> (out,0)
 | f::l=>bif okField f then putL (out ++ num8 f.Size.toNat f.Value) l else ([],5)
def hasF (fs:List Field): Prop:=∀f∈fs,0≤f.Value∧f.Value < 18446744073709551616
theorem num8_step (v:Int) (k:Int) (h0:0≤k) (n:Nat): num8 (n+1) (v / 256 ^ k.toNat)= v / 256 ^ k.toNat % 256::num8 n (v / 256 ^ (k+1).toNat):= by
 rw [num8,show (k+1).toNat=k.toNat+1 by omega,Int.pow_succ,Int.ediv_ediv_of_nonneg (Int.le_of_lt (Int.pow_pos (by decide)))]
theorem shr_byte (v k:Int) (h0:0≤k) (h1:k≤8): shrK IntKind.u64 v (IntKind.wrap IntKind.i64 ((8:Int)* k))= v / 256 ^ k.toNat:=by
 rw [wi64 _ (by omega) (by omega),shr_eq v (by omega) (by simp only [IntKind.bits];omega),show (8*k).toNat=8*k.toNat by omega,pow256]
theorem oPut_igo (fields:List Field) (i:Int) (out:List Int) (h1:(fields.getD i.toNat Field.zero).Size≤8): ∀(n:Nat) (k:Int) (o2:List Int),0≤k→k≤(fields.getD i.toNat Field.zero).Size→((fields.getD i.toNat Field.zero).Size - k).toNat < n→
  (oPut.igo fields i out n k o2).2=o2 ++ num8 ((fields.getD i.toNat Field.zero).Size - k).toNat ((fields.getD i.toNat Field.zero).Value / 256 ^ k.toNat)
 | 0,k,o2,h0,h2,h3=>by omega
 | n+1,k,o2,h0,h2,h3=>by
  unfold oPut.igo
  by_cases hk:k < (fields.getD i.toNat Field.zero).Size
  ·simp only [hk,decide_true,cond_true]
   rw [wi64 (k+(1:Int)) (by omega) (by omega),oPut_igo fields i out h1 n (k+1) _ (by omega) (by omega) (by omega),shr_byte _ k h0 (by omega),wu8m]
   have e:((fields.getD i.toNat Field.zero).Size - k).toNat=((fields.getD i.toNat Field.zero).Size - (k+1)).toNat+1:=by omega
   rw [e,num8_step _ k h0,List.append_assoc,List.singleton_append]
  ·simp only [hk,decide_false,cond_false]
   rw [show ((fields.getD i.toNat Field.zero).Size - k).toNat=0 by omega]
   simp [num8]
theorem lt_shr {v:Int} {k:Nat} (h0:0≤v): (v / 256 ^ k != 0)= !decide (v < 256 ^ k):= by
 have hp:(0:Int) < 256 ^ k:=Int.pow_pos (by decide)
 by_cases h:v < 256 ^ k
 ·rw [Int.ediv_eq_zero_of_lt h0 h];simp [h]
 ·have h1:1≤v / 256 ^ k:=by rw [Int.le_ediv_iff_mul_le hp];omega
  simp only [h,decide_false,Bool.not_false,bne_iff_ne,ne_eq];omega
theorem oPut_cond (f:Field) (h0:0≤f.Value) (h1:f.Value < 18446744073709551616): (bif !sized f.Size then true else bif decide (f.Size < (8:Int)) then shrK IntKind.u64 f.Value (IntKind.wrap IntKind.i64 ((8:Int)* f.Size)) != (0:Int) else false)= !okField f:=by
 unfold okField
 cases hs:sized f.Size
 ·have : ¬(1≤f.Size∧f.Size≤8):= by rw [←sized_iff];simp [hs]
  have h2 : ¬(1≤f.Size∧f.Size≤8∧f.Value < 256 ^ f.Size.toNat):= fun h=>this ⟨h.1,h.2.1⟩
  simp [h2]
 ·have hs':1≤f.Size∧f.Size≤8:=by rw [←sized_iff];exact hs
  simp only [Bool.not_true,cond_false]
  by_cases h8:f.Size < 8
  ·simp only [h8,decide_true,cond_true]
   rw [shr_byte _ _ (by omega) (by omega),lt_shr h0]
   simp [hs']
  ·have e:f.Size=8:=by omega
   simp only [h8,decide_false,cond_false]
   rw [e]
   simp [h1]
theorem oPut_go (fields:List Field) (hf:hasF fields) (hl:fields.length≤1099511627776): ∀(n:Nat) (i:Int) (out:List Int),0≤i→i≤fields.length→(fields.length - i).toNat < n→oPut.go fields n i out=putL out (fields.drop i.toNat)
 | 0,i,out,h0,h1,h2=>by omega
 | n+1,i,out,h0,h1,h2=>by
  unfold oPut.go
  by_cases hi:i < fields.length
  ·have hm:fields.getD i.toNat Field.zero∈fields:=by
    have h3:i.toNat < fields.length:=by omega
    simp [List.getD,List.getElem?_eq_getElem h3]
   obtain ⟨v0,v1⟩:= hf _ hm
   rw [getD_drop fields Field.zero i h0 hi,putL]
   simp only [hi,decide_true,cond_true]
   rw [oPut_cond _ v0 v1]
   cases hk:okField (fields.getD i.toNat Field.zero)
   ·simp
   ·have hk':1≤(fields.getD i.toNat Field.zero).Size∧(fields.getD i.toNat Field.zero).Size≤8:=by
     have:=of_decide_eq_true hk;exact ⟨this.1,this.2.1⟩
    simp only [Bool.not_true,cond_false,cond_true]
    rw [wi64 (i+(1:Int)) (by omega) (by omega),oPut_igo fields i out hk'.2 _ 0 out (by omega) (by omega) (by omega),oPut_go fields hf hl n (i+1) _ (by omega) (by omega) (by omega)]
    simp
  ·simp only [hi,decide_false,cond_false]
   rw [List.drop_of_length_le (by omega),putL]
theorem oPut_eq (fields:List Field) (hf:hasF fields) (hl:fields.length≤1099511627776): oPut fields=putL [] fields:=by
 unfold oPut
 rw [oPut_go fields hf hl _ 0 [] (by omega) (by omega) (by omega)];rfl
theorem oPut_go_len (fields:List Field) (hl:fields.length≤1099511627776): ∀(n:Nat) (i:Int) (out:List Int),0≤i→i≤fields.length→(fields.length - i).toNat < n→((oPut.go fields n i out).1.length:Int)≤out.length+8*(fields.length - i)
 | 0,i,out,h0,h1,h2=>by omega
 | n+1,i,out,h0,h1,h2=>by
  unfold oPut.go
  by_cases hi:i < fields.length
  ·simp only [hi,decide_true,cond_true]
   cases hs:sized (fields.getD i.toNat Field.zero).Size
   ·simp;omega
   ·have hs':1≤(fields.getD i.toNat Field.zero).Size∧(fields.getD i.toNat Field.zero).Size≤8:=by rw [←sized_iff];exact hs
    have h3:=oPut_igo fields i out hs'.2 ((fields.getD i.toNat Field.zero).Size.toNat+1) 0 out (by omega) (by omega) (by omega)
    simp only [Bool.not_true,cond_false]
    cases (bif decide ((fields.getD i.toNat Field.zero).Size < (8:Int)) then shrK IntKind.u64 (fields.getD i.toNat Field.zero).Value (IntKind.wrap IntKind.i64 ((8:Int)* (fields.getD i.toNat Field.zero).Size)) != (0:Int) else false)
    ·simp only [cond_false]
     rw [h3,wi64 (i+(1:Int)) (by omega) (by omega)]
     have:=oPut_go_len fields hl n (i+1) (out ++ num8 ((fields.getD i.toNat Field.zero).Size - 0).toNat ((fields.getD i.toNat Field.zero).Value / 256 ^ (0:Int).toNat)) (by omega) (by omega) (by omega)
     rw [List.length_append,num8_len] at this
     omega
    ·simp;omega
  ·simp only [hi,decide_false,cond_false];omega
theorem oPut_len (fields:List Field) (hl:fields.length≤1099511627776): (oPut fields).1.length≤8*fields.length:=by
 have:=oPut_go_len fields hl (fields.length+1) 0 [] (by omega) (by omega) (by omega)
 unfold oPut
 simp only [List.length_nil] at this
 omega
theorem r2Num_go (size p1:Int) (hs:size≤8): ∀(n:Nat) (i q:Int) (out:List Int),0≤i→i≤8→(size - i).toNat < n→0≤q→q < 18446744073709551616→r2Num.go size p1 n i q out=out ++ num8 (size - i).toNat q
 | 0,i,q,out,h0,h1,h2,h3,h4=>by omega
 | n+1,i,q,out,h0,h1,h2,h3,h4=>by
  unfold r2Num.go
  by_cases hi:i < size
  ·simp only [hi,decide_true,cond_true]
   have hq:q.tdiv 256=q / 256:=Int.tdiv_eq_ediv_of_nonneg h3
   have hm:q.tmod 256=q % 256:=Int.tmod_eq_emod_of_nonneg h3
   rw [hq,hm,wi64 (i+(1:Int)) (by omega) (by omega),wu64 _ (by omega) (by omega),wu8m,r2Num_go size p1 hs n (i+1) (q / 256) _ (by omega) (by omega) (by omega) (by omega) (by omega)]
   rw [show (size - i).toNat=(size - (i+1)).toNat+1 by omega,num8,List.append_assoc,List.singleton_append]
   congr 2
   omega
  ·simp only [hi,decide_false,cond_false]
   rw [show (size - i).toNat=0 by omega];simp [num8]
theorem r2Num_eq (size v:Int) (hs:size≤8) (h0:0≤v) (h1:v < 18446744073709551616): r2Num size v=num8 size.toNat v:=by
 unfold r2Num
 rw [r2Num_go size v hs _ 0 v [] (by omega) (by omega) (by omega) h0 h1]
 simp
theorem val8_take (c:List Int) (k:Int) (h0:0≤k) (h1:k < c.length): val8 (c.take (k+1).toNat)= val8 (c.take k.toNat)+ c.getD k.toNat 0*256 ^ k.toNat:=by
 have h2:k.toNat < c.length:=by omega
 rw [show (k+1).toNat=k.toNat+1 by omega,List.take_add_one,val8_append,List.length_take,Nat.min_eq_left (by omega)]
 simp [List.getD,h2,val8,Int.mul_comm]
theorem val8_lt (c:List Int) (hc:Bytes c) (n:Nat) (hn:n≤8): 0≤val8 (c.take n)∧val8 (c.take n) < 256 ^ n∧val8 (c.take n) < 18446744073709551616:=by
 have h:=val8_bound (c.take n) (hc.take n)
 have h1:(256:Int) ^ (c.take n).length≤256 ^ n:=by
  have h2:256 ^ (c.take n).length≤256 ^ n:=Nat.pow_le_pow_right (by decide) (by rw [List.length_take];omega)
  have h3:((256 ^ (c.take n).length:Nat): Int)≤((256 ^ n:Nat): Int):= by omega
  rw [Int.natCast_pow,Int.natCast_pow] at h3;exact h3
 have h4:=pow256_le hn
 omega
theorem byte_or (c:List Int) (hc:Bytes c) (k:Int) (h0:0≤k) (h1:k < c.length) (h2:k < 8): borK IntKind.u64 (val8 (c.take k.toNat)) (shlK IntKind.u64 (IntKind.wrap IntKind.u64 (c.getD k.toNat 0)) (IntKind.wrap IntKind.i64 ((8:Int)* k)))= val8 (c.take (k+1).toNat):= by
 have hb:=hc.getD k.toNat
 have h3:=val8_lt c hc k.toNat (by omega)
 have h4:=val8_lt c hc (k+1).toNat (by omega)
 rw [val8_take c k h0 h1] at h4 ⊢
 rw [wi64 _ (by omega) (by omega),wu64 _ (by omega) (by omega),shl_eq rfl _ (by omega) (by simp only [IntKind.bits];omega),show (8*k).toNat=8*k.toNat by omega,p64]
 have hnn:0≤c.getD k.toNat 0*256 ^ k.toNat:=Int.mul_nonneg hb.1 (Int.le_of_lt (Int.pow_pos (by decide)))
 rw [pow256,Int.emod_eq_of_lt hnn (by omega),←pow256]
 exact bor_add rfl h3.1 (by rw [pow256];exact h3.2.1) hb.1 (by rw [pow256,p64];omega) (by simp only [IntKind.bits];omega)
theorem r2Value_go (b:List Int) (hb:Bytes b) (hl:b.length≤8): ∀(n:Nat) (i:Int), -1≤i→i < b.length→(i+1).toNat < n→r2Value.go b n i (val8 (b.drop (i+1).toNat))= val8 b
 | 0,i,h0,h1,h2=>by omega
 | n+1,i,h0,h1,h2=>by
  unfold r2Value.go
  by_cases hi:0≤i
  ·simp only [hi,decide_true,cond_true]
   have e:=getD_drop b 0 i hi h1
   have hv:val8 (b.drop i.toNat)= b.getD i.toNat 0+256*val8 (b.drop (i+1).toNat):= by rw [e,val8]
   have h3:=val8_bound (b.drop i.toNat) (hb.drop _)
   have h4:=val8_bound (b.drop (i+1).toNat) (hb.drop _)
   have h5:=pow256_le (n:=(b.drop i.toNat).length) (by simp;omega)
   have h6:=hb.getD i.toNat
   rw [wu64 (val8 (b.drop (i+1).toNat)* 256) (by omega) (by omega),wu64 (b.getD i.toNat 0) (by omega) (by omega),wu64 _ (by omega) (by omega),wi64 _ (by omega) (by omega)]
   have:=r2Value_go b hb hl n (i - 1) (by omega) (by omega) (by omega)
   rw [show i - 1+1=i by omega,hv,Int.mul_comm,Int.add_comm] at this
   exact this
  ·simp only [hi,decide_false,cond_false]
   rw [show (i+1).toNat=0 by omega];rfl
theorem r2Value_eq (b:List Int) (hb:Bytes b) (hl:b.length≤8): r2Value b=val8 b:=by
 unfold r2Value
 rw [wi64 _ (by omega) (by omega)]
 have:=r2Value_go b hb hl (b.length+1) ((b.length:Int) - 1) (by omega) (by omega) (by omega)
 rw [show (b.length:Int) - 1+1=b.length by omega] at this
 rw [show (b.drop (b.length:Int).toNat)= [] from by simp] at this
 exact this
theorem putL_spec : ∀(fs:List Field) (out:List Int),fs.all okField=true→putL out fs=(out ++ fs.flatMap fun f=>num8 f.Size.toNat f.Value,0)
 | [],out,_=>by simp [putL]
 | f::fs,out,h=>by
  simp only [List.all_cons,Bool.and_eq_true] at h
  rw [putL,h.1,cond_true,putL_spec fs _ h.2]
  simp
theorem oJoin_go (parts:List (List Int)) (hl:parts.length≤4611686018427387904): ∀(n:Nat) (i:Int) (out:List Int),0≤i→i≤parts.length→(parts.length - i).toNat < n→oJoin.go parts n i out=out ++ (parts.drop i.toNat).flatten
 | 0,i,out,h0,h1,h2=>by omega
 | n+1,i,out,h0,h1,h2=>by
  unfold oJoin.go
  by_cases hi:i < parts.length
  ·simp only [hi,decide_true,cond_true]
   rw [wi64 (i+(1:Int)) (by omega) (by omega),oJoin_go parts hl n (i+1) _ (by omega) (by omega) (by omega),getD_drop parts [] i h0 hi,List.flatten_cons,List.append_assoc]
  ·simp only [hi,decide_false,cond_false]
   rw [List.drop_of_length_le (by omega)];simp
theorem oJoin_eq (parts:List (List Int)) (hl:parts.length≤4611686018427387904): oJoin parts=parts.flatten:=by
 unfold oJoin
 rw [oJoin_go parts hl _ _ _ (by omega) (by omega) (by omega)];rfl
theorem mBytes_go (ns:List Int) (hl:ns.length≤1099511627776): ∀(n:Nat) (i:Int) (out:List Field),0≤i→i≤ns.length→(ns.length - i).toNat < n→mBytes.go ns n i out=(oPut (out ++ (ns.drop i.toNat).map fun v=>(⟨8,v⟩: Field))).1
 | 0,i,out,h0,h1,h2=>by omega
 | n+1,i,out,h0,h1,h2=>by
  unfold mBytes.go
  by_cases hi:i < ns.length
  ·simp only [hi,decide_true,cond_true]
   rw [wi64 (i+(1:Int)) (by omega) (by omega),mBytes_go ns hl n (i+1) _ (by omega) (by omega) (by omega),getD_drop ns 0 i h0 hi,List.map_cons,List.append_assoc];rfl
  ·simp only [hi,decide_false,cond_false]
   rw [List.drop_of_length_le (by omega)];simp
theorem mBytes_put (ns:List Int) (hl:ns.length≤1099511627776): mBytes ns=(oPut (ns.map fun v=>(⟨8,v⟩: Field))).1:=by
 unfold mBytes
 rw [mBytes_go ns hl _ _ _ (by omega) (by omega) (by omega)];rfl
theorem mBytes_len (ns:List Int) (hl:ns.length≤1099511627776): (mBytes ns).length≤8*ns.length:=by
 rw [mBytes_put ns hl]
 have:=oPut_len (ns.map fun v=>(⟨8,v⟩: Field)) (by simpa using hl)
 simpa using this
theorem mBytes_eq (ns:List Int) (hl:ns.length≤1099511627776) (hn : ∀v∈ns,0≤v∧v < 18446744073709551616): mBytes ns=ns.flatMap (num8 8):= by
 rw [mBytes_put ns hl,oPut_eq _ (by
  intro f hf
  obtain ⟨v,hv,rfl⟩:= List.mem_map.1 hf
  exact hn v hv) (by simpa using hl),putL_spec _ _ (by
  simp only [List.all_eq_true,List.mem_map]
  rintro f ⟨v,hv,rfl⟩
  have:=hn v hv
  exact decide_eq_true ⟨by dsimp only;omega,by dsimp only;omega,by show v < 256 ^ 8;omega⟩)]
 simp [List.flatMap_map]
end Go.Aw.W
