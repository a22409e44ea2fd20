/-
  Append, make, copy; calls that make things (own work).
-/
import Derived.Test.YtlnbhdcaebmffaaGreatXAwZ
import Derived.Maps.AppendAt
import Derived.MapKept
set_option linter.unusedSimpArgs false
set_option linter.unusedVariables false
namespace Go.Aw
open Go.RowKit
section
variable {C:Cx} {env:Env} {w:World} {B:Nat} {H:List (AObj C.S.El)}
theorem RowG.ones (hS:SigOk C.S) {t:TypeId} {xs:List (C.S.El t)} {us:List Value} (h:RowG C env w t xs us): ∀v∈us,v.oneCell'=true:=by
 intro v hv
 obtain ⟨k,hk,rfl⟩:= List.getElem_of_mem hv
 have hpos:=hS.pos t
 have hk2:k < xs.length*C.S.sz t:=by rw [←h.1];exact hk
 have hi:k / C.S.sz t < xs.length:=Nat.div_lt_of_lt_mul (by rw [Nat.mul_comm];exact hk2)
 have hj:k % C.S.sz t < C.S.sz t:=Nat.mod_lt _ hpos
 have hg:=h.2 (k / C.S.sz t) (k % C.S.sz t) hi
 rw [show k / C.S.sz t*C.S.sz t+k % C.S.sz t=k by rw [Nat.mul_comm];exact Nat.div_add_mod k _] at hg
 have e:us.getD k undef=us[k]:= by simp [List.getD,hk]
 rw [e] at hg
 have hl:=hS.len t (xs.getD (k / C.S.sz t) (C.S.dflt t))
 have hgm : ∀(cs:List (AV C.S.El)) j,j < cs.length→cs.getD j .any∈cs:=fun cs j hj=>by rw [List.getD,List.getElem?_eq_getElem hj];exact List.getElem_mem _
 have hm:=hgm (C.S.cell t (xs.getD (k / C.S.sz t) (C.S.dflt t))) (k % C.S.sz t) (by omega)
 exact one_cell (hS.flat t _ _ hm).2 hg
theorem RowG.append (hS:SigOk C.S) {t:TypeId} {xs ys:List (C.S.El t)} {us vs:List Value} (h:RowG C env w t xs us) (k:RowG C env w t ys vs): RowG C env w t (xs ++ ys) (us ++ vs):= by
 refine ⟨by simp [h.1,k.1,Nat.add_mul],fun i j hi=>?_⟩
 by_cases hj:j < C.S.sz t
 ·by_cases hx:i < xs.length
  ·have e1:(xs ++ ys).getD i (C.S.dflt t)= xs.getD i (C.S.dflt t):= by simp [List.getD,List.getElem?_append,hx]
   have hm:(i+1)* C.S.sz t≤xs.length*C.S.sz t:=Nat.mul_le_mul_right _ hx
   rw [Nat.add_mul,Nat.one_mul] at hm
   have e2:(us ++ vs).getD (i*C.S.sz t+j) undef=us.getD (i*C.S.sz t+j) undef:=by
    simp only [List.getD,List.getElem?_append,h.1];rw [if_pos (by omega)]
   rw [e1,e2]
   exact h.2 i j hx
  ·have e1:(xs ++ ys).getD i (C.S.dflt t)= ys.getD (i - xs.length) (C.S.dflt t):= by simp [List.getD,List.getElem?_append,hx]
   have hm:xs.length*C.S.sz t≤i*C.S.sz t:=Nat.mul_le_mul_right _ (by omega)
   have e2:(us ++ vs).getD (i*C.S.sz t+j) undef=vs.getD ((i - xs.length)* C.S.sz t+j) undef:=by
    simp only [List.getD,List.getElem?_append,h.1]
    rw [if_neg (by omega)]
    congr 2
    rw [Nat.sub_mul];omega
   rw [e1,e2]
   exact k.2 _ j (by simp at hi;omega)
 ·have:(C.S.cell t ((xs ++ ys).getD i (C.S.dflt t))).getD j AV.any = .any:=by
   have:=hS.len t ((xs ++ ys).getD i (C.S.dflt t))
   generalize C.S.cell t ((xs ++ ys).getD i (C.S.dflt t))= cs at this ⊢
   rw [List.getD,List.getElem?_eq_none (by omega)];rfl
  rw [this];exact .any _
theorem RowG.ext {env':Env} {w':World} {N:Nat} (he:Ext B N env w env' w') (hN : ∀i v,env.val i=some v→i < N) {t:TypeId} {xs:List (C.S.El t)} {us:List Value} (h:RowG C env w t xs us): RowG C env' w' t xs us :=
 ⟨h.1,fun i j hi=>(h.2 i j hi).ext he hN⟩
theorem run_append_none {P:Program} {t ty e:TypeId} {i:TypeInfo} (ht:P.underlying t=some (.slice e)) (hi:P.info? e=some i) (a:Option Addr) (n cap c:Nat) (hn:n≤cap) (w:World):
  (Builtin.append_ #[t,t] ty #[.slice a n cap, .slice none 0 c]).run P w = .ok (.slice a n cap) w:=by
 cases a <;> simp [Builtin.append_,run_underlying ht,run_sizeOf hi,Builtin.lenOf,Builtin.firstCells,hn,storeCells]
theorem OwnsR.cells {w:World} {base:Nat} {e:TypeId} {size:Nat} {g n cap o:Nat} {xs:List Value} (h:OwnsR w base e size (.slice (some ⟨g,o,none⟩) n cap) n xs): ∀j u,xs[j]? = some u→w.cell? ((⟨g,o,none⟩: Addr).add j)= some u:=by
 intro j u hj
 rcases h.2 with ⟨e1,_⟩| ⟨g',cap',cur,fz,o',e1,_,h3,_,_,h6,h7,_⟩
 ·cases e1
 ·cases e1
  subst h7
  rw [List.getElem?_take,List.getElem?_drop] at hj
  split at hj
  ·have:(⟨g,o,none⟩: Addr).add j=⟨g,o+j,none⟩:= by unfold Addr.add;split <;> simp_all
   rw [this]
   simp only [World.cell?,h3]
   simpa using hj
  ·cases hj
theorem run_append_R {P:Program} (w:World) (base:Nat) (t ty e:TypeId) (i:TypeInfo) (z:Value) (size:Nat) (ht:P.underlying t=some (.slice e)) (hi:P.info? e=some i) (hz:i.zero=some z)
  (hsize:i.size=size) (hzs:z.cells.size=size) (hsz:0 < size)
  (v:Value) (n:Nat) (xs:List Value) (hown:OwnsR w base e size v n xs)
  (a:Addr) (m c:Nat) (news:List Value) (hl:news.length=m*size) (hnews : ∀j u,news[j]? = some u→w.cell? (a.add j)= some u) (h1 : ∀u∈news,u.oneCell'=true)
  (h63:n+m≤maxLen) (hbytes:(n+m)* i.bytes≤140737488355328) (hbase:base≤w.heap.size):
  ∃v' w',(Builtin.append_ #[t,t] ty #[v, .slice (some a) m c]).run P w = .ok v' w'∧OwnsR w' base e size v' (n+m) (xs ++ news)∧w.grownBy w' v.ownBlock∧
   (v'.ownBlock=v.ownBlock∨v'.ownBlock=some w.heap.size):= by
 rcases hown.2 with ⟨rfl,rfl⟩| ⟨g,cap,cur,fz,bo,rfl,hbg,hg,hnc,hcm,hcs,htake,hfz⟩
 ·have hx:xs=[]:= List.eq_nil_of_length_eq_zero (by simpa using hown.1)
  subst hx
  obtain ⟨v',w',q1,q2,q3,_,q5⟩:= run_append_own_at w base t ty e i z size i.bytes ht hi hz hsize rfl hzs hsz (.slice none 0 0) 0 [] (World.ownsRow_nil w base e size) a m c news hl hnews h1 h63 hbytes hbase
  exact ⟨v',w',q1, .of q2,q3,q5⟩
 ·subst hsize
  have hlen:(xs ++ news).length=(n+m)* i.size:=by rw [List.length_append,hown.1,hl,Nat.add_mul]
  have hsmall:n+m≤9223372036854775807:=by simp only [maxLen] at h63;omega
  by_cases hroom:n+m≤cap
  ·have hfit:bo+n*i.size+news.length≤cur.size:=by
    have h1:(n+m)* i.size≤cap*i.size:=Nat.mul_le_mul_right _ hroom
    rw [Nat.add_mul] at h1
    omega
   have hfc:=run_firstCells_some (P:=P) w i.size m a m c news hl hnews
   have hst:=run_storeCells_fz P g (bo+n*i.size) e fz news 0 cur w hg hfz (by omega) h1
   simp only [Nat.add_zero] at hst
   refine ⟨.slice (some ⟨g,bo,none⟩) (n+m) cap,w.setRow g (cur.toList.take (bo+n*i.size)++ news ++ cur.toList.drop (bo+n*i.size+news.length)).toArray, ?_,⟨hlen, .inr ⟨g,cap,_,fz,bo,rfl,hbg,setRow_heap w g cur _ e fz hg,hroom,hcm, ?_, ?_, ?_⟩⟩,⟨rfl,rfl,rfl,by simp,fun k _ hk=>setRow_other w g k _ (fun e=>hk (by simp [Value.ownBlock,e]))⟩, .inl rfl⟩
   ·simp [Builtin.append_,run_underlying ht,sizeOf,typeInfo,hi,Builtin.lenOf,hroom,hfc,Addr.add_lit,hst]
   ·simp only [List.size_toArray,List.length_append,List.length_take,List.length_drop,Array.length_toList];omega
   ·show List.take _ (List.drop bo (_ ++ _))= _
    rw [splice_off _ _ _ _ (by simp;omega),htake,←hlen];exact List.take_left
   ·refine hfz.imp id fun h=>?_
    simp only [List.size_toArray,List.length_append,List.length_take,List.length_drop,Array.length_toList];omega
  ·have hr:=run_append_grow (P:=P) w t ty e i z ht hi hz ⟨g,bo,none⟩ n cap xs hown.1 hown.cells a m c news hl hnews (by omega) (by omega) (growslice_fits (by omega) hbytes)
   have hge:=grownCap_ge w (n+m) cap e
   refine ⟨_,_,hr,⟨hlen, .inr ⟨w.heap.size,_,_,(0,0),0,rfl,hbase,heap_alloc_new w.drew _,hge,grownCap_le_maxLen w (n+m) cap e h63, ?_, ?_, .inl rfl⟩⟩,⟨rfl,rfl,rfl,by simp,fun k hk _=>Below.heap_alloc w.drew _ k hk⟩, .inr rfl⟩
   ·rw [Nat.zero_add]
    refine Nat.le_of_eq (Eq.symm ?_)
    simp only [Array.size_append,List.size_toArray,size_zeroCells,hzs,hown.1,hl,←Nat.add_mul]
    congr 1
    omega
   ·rw [List.drop_zero]
    simp only [Array.toList_append,List.append_assoc]
    rw [←List.append_assoc,←hlen]
    exact List.take_left
theorem append_core (hS:SigOk C.S) (hI:Inv C.S B env w H) {t ty e:TypeId} {i:TypeInfo} (ht:C.P.underlying t=some (.slice e)) (hi:C.P.info? e=some i) (hz : ∃z,i.zero=some z∧z.cells.size=i.size) (hsz:i.size=C.S.sz e) (hby:1≤i.bytes)
  {v:Value} {xs:List (C.S.El e)} {us:List Value} (hown:OwnsR w B e (C.S.sz e) v xs.length us) (hxs:RowG C env w e xs us)
  (hfree : ∀b,v.ownBlock=some b→(∀k,¬env.prot b k)∧(∀j u,live (obj H j)= true→env.val j=some u→blkV u≠some b)) {x:AV C.S.El} {vx:Value} {ys:List (C.S.El e)} {f:Bool} (hd:deref H x = .sl e ys f∨∃H',True∧deref H' x = .sl e ys f∧Inv C.S B env w H') (hx:Γ C.S env w x vx)
  (hb:(xs.length+ys.length)* i.bytes≤140737488355328):
  ∃v' w' env',(Builtin.append_ #[t,t] ty #[v,vx]).run C.P w = .ok v' w'∧Γ C.S env' w' (.gs H.length) v'∧Inv C.S B env' w' (H ++ [.row e (xs ++ ys)])∧Ext B H.length env w env' w':=by
 obtain ⟨a,cap,news,rfl,hr,ha,hcell⟩: ∃a cap news,vx = .slice a ys.length cap∧RowG C env w e ys news∧(a=none→ys=[])∧(∀ad,a=some ad→∀k y,news[k]? = some y→w.cell? (ad.add k)= some y):= by
  rcases hd with hd | ⟨H',_,hd,hI'⟩
  ·exact read_sl hS hI hd hx
  ·exact read_sl hS hI' hd hx
 obtain ⟨z,hz1,hz2⟩:= hz
 have hlen:xs.length+ys.length≤maxLen:=by
  have:xs.length+ys.length≤(xs.length+ys.length)* i.bytes:=Nat.le_mul_of_pos_right _ hby
  simp only [maxLen];omega
 obtain ⟨v',w',hrun,hown',hgr,hblk⟩: ∃v' w',(Builtin.append_ #[t,t] ty #[v, .slice a ys.length cap]).run C.P w = .ok v' w'∧OwnsR w' B e (C.S.sz e) v' (xs.length+ys.length) (us ++ news)∧w.grownBy w' v.ownBlock∧(v'.ownBlock=v.ownBlock∨v'.ownBlock=some w.heap.size):= by
  cases a with
  | some ad =>
   obtain ⟨v',w',h1,h2,h3,h5⟩:= run_append_R w B t ty e i z (C.S.sz e) ht hi hz1 hsz (by rw [hz2,hsz]) (hS.pos e) v xs.length us hown ad ys.length cap news hr.1 (hcell ad rfl) (hr.ones hS) hlen hb hI.base
   exact ⟨v',w',h1,h2,h3,h5⟩
  | none =>
   have:=ha rfl
   subst this
   have hnn:news=[]:= List.eq_nil_of_length_eq_zero (by simpa using hr.1)
   subst hnn
   have hv : ∃a n c,v = .slice a n c∧n≤c:=by
    rcases hown.2 with ⟨e1,_⟩| ⟨g,c,cur,fz,bo,e1,_,_,e2,_⟩
    ·exact ⟨none,0,0,e1,Nat.le_refl _⟩
    ·exact ⟨_,_,c,e1,e2⟩
   obtain ⟨a',n',c',rfl,hle⟩:= hv
   exact ⟨_,w,run_append_none ht hi a' n' c' cap hle w,by simpa using hown,⟨rfl,rfl,rfl,Nat.le_refl _,fun _ _ _=>rfl⟩, .inl rfl⟩
 have hOB : ∀(u:Value) b,(∃a n c,u=Value.slice a n c)→(blkV u=some b ↔ u.ownBlock=some b):= by
  rintro u b ⟨a,n,c,rfl⟩
  cases a <;> rfl
 have hvs : ∀{w:World} {u:Value} {n:Nat} {l:List Value},OwnsR w B e (C.S.sz e) u n l→∃a n c,u=Value.slice a n c:=by
  intro w u n l h
  rcases h.2 with ⟨e1,_⟩| ⟨g,c,cur,fz,bo,e1,_⟩
  ·exact ⟨_,_,_,e1⟩
  ·exact ⟨_,_,_,e1⟩
 have hold : ∀b,v.ownBlock=some b→B≤b:=by
  intro b hb
  rcases hown.2 with ⟨e1,_⟩| ⟨g,c,cur,fz,bo,e1,e2,_⟩
  ·rw [e1] at hb;cases hb
  ·rw [e1] at hb;cases hb;exact e2
 have hBel:Below B w w':=(Below.refl B w).grown hgr hI.base (fun k hk=>hold k hk)
 have hkeep : ∀b k,env.prot b k→w'.heap[b]? = w.heap[b]?:=fun b k hp=>by
  refine hgr.block b (hI.inheap b k hp) fun h=>?_
  exact (hfree b h.symm).1 k hp
 have hpush:=push_obj hI (w':=w') (u:=v') (o:=.row e (xs ++ ys)) hBel hkeep
  (fun j u b h1 h2 h3=>hgr.block b (live_block hI h1 h2 h3) fun h=>(hfree b h.symm).2 j u h3 h1 h2)
  (fun b hb' _=>by
   rw [hOB v' b (hvs hown')] at hb'
   rcases hblk with h | h
   ·rw [h] at hb';exact hfree b hb'
   ·rw [h] at hb';cases hb'
    exact ⟨fun k hp=>absurd (hI.inheap _ k hp) (by omega),fun j u h1 h2 h3=>absurd (live_block hI h2 h3 h1) (by omega)⟩)
 have hE0:Ext B H.length env w ⟨fun j=>if j=H.length then some v' else env.val j,env.prot⟩ w':=⟨hBel,fun j u hj h=>by simp only;rw [if_neg (by omega)];exact h,fun _ _ h=>h,hkeep,fun _ _ h => .inl h⟩
 obtain ⟨hI',hE'⟩:= hpush ⟨v',us ++ news,rfl,by rw [List.length_append];exact hown',fun j k hj hk=>((hxs.append hS hr).ext hE0 hI.fresh).2 j k hj⟩
 obtain ⟨a',n',c',rfl⟩:= hvs hown'
 exact ⟨_,w',_,hrun, .gs _ a' n' c' (by simp),hI',hE'⟩
theorem append_at (hS:SigOk C.S) (hI:Inv C.S B env w H) {t ty e:TypeId} {i:TypeInfo} (ht:C.P.underlying t=some (.slice e)) (hi:C.P.info? e=some i) (hz : ∃z,i.zero=some z∧z.cells.size=i.size) (hsz:i.size=C.S.sz e) (hby:1≤i.bytes)
  {v:Value} {xs:List (C.S.El e)} {us:List Value} (hown:OwnsR w B e (C.S.sz e) v xs.length us) (hxs:RowG C env w e xs us)
  (hfree : ∀b,v.ownBlock=some b→(∀k,¬env.prot b k)∧(∀j u,live (obj H j)= true→env.val j=some u→blkV u≠some b)) {x:AV C.S.El} {vx:Value} {ys:List (C.S.El e)} {f:Bool} (hd:deref H x = .sl e ys f∨∃H',True∧deref H' x = .sl e ys f∧Inv C.S B env w H') (hx:Γ C.S env w x vx)
  {k0:Nat} (hk0:k0 < H.length) (hv0:env.val k0=none) (hb:(xs.length+ys.length)* i.bytes≤140737488355328):
  ∃v' w' env',(Builtin.append_ #[t,t] ty #[v,vx]).run C.P w = .ok v' w'∧(∀i,i≠k0→env'.val i=env.val i)∧Γ C.S env' w' (.gs k0) v'∧Inv C.S B env' w' (H.set k0 (.row e (xs ++ ys)))∧Ext B H.length env w env' w':=by
 obtain ⟨a,cap,news,rfl,hr,ha,hcell⟩: ∃a cap news,vx = .slice a ys.length cap∧RowG C env w e ys news∧(a=none→ys=[])∧(∀ad,a=some ad→∀k y,news[k]? = some y→w.cell? (ad.add k)= some y):= by
  rcases hd with hd | ⟨H',_,hd,hI'⟩
  ·exact read_sl hS hI hd hx
  ·exact read_sl hS hI' hd hx
 obtain ⟨z,hz1,hz2⟩:= hz
 have hlen:xs.length+ys.length≤maxLen:=by
  have:xs.length+ys.length≤(xs.length+ys.length)* i.bytes:=Nat.le_mul_of_pos_right _ hby
  simp only [maxLen];omega
 obtain ⟨v',w',hrun,hown',hgr,hblk⟩: ∃v' w',(Builtin.append_ #[t,t] ty #[v, .slice a ys.length cap]).run C.P w = .ok v' w'∧OwnsR w' B e (C.S.sz e) v' (xs.length+ys.length) (us ++ news)∧w.grownBy w' v.ownBlock∧(v'.ownBlock=v.ownBlock∨v'.ownBlock=some w.heap.size):= by
  cases a with
  | some ad =>
   obtain ⟨v',w',h1,h2,h3,h5⟩:= run_append_R w B t ty e i z (C.S.sz e) ht hi hz1 hsz (by rw [hz2,hsz]) (hS.pos e) v xs.length us hown ad ys.length cap news hr.1 (hcell ad rfl) (hr.ones hS) hlen hb hI.base
   exact ⟨v',w',h1,h2,h3,h5⟩
  | none =>
   have:=ha rfl
   subst this
   have hnn:news=[]:= List.eq_nil_of_length_eq_zero (by simpa using hr.1)
   subst hnn
   have hv : ∃a n c,v = .slice a n c∧n≤c:=by
    rcases hown.2 with ⟨e1,_⟩| ⟨g,c,cur,fz,bo,e1,_,_,e2,_⟩
    ·exact ⟨none,0,0,e1,Nat.le_refl _⟩
    ·exact ⟨_,_,c,e1,e2⟩
   obtain ⟨a',n',c',rfl,hle⟩:= hv
   exact ⟨_,w,run_append_none ht hi a' n' c' cap hle w,by simpa using hown,⟨rfl,rfl,rfl,Nat.le_refl _,fun _ _ _=>rfl⟩, .inl rfl⟩
 have hOB : ∀(u:Value) b,(∃a n c,u=Value.slice a n c)→(blkV u=some b ↔ u.ownBlock=some b):= by
  rintro u b ⟨a,n,c,rfl⟩
  cases a <;> rfl
 have hvs : ∀{w:World} {u:Value} {n:Nat} {l:List Value},OwnsR w B e (C.S.sz e) u n l→∃a n c,u=Value.slice a n c:=by
  intro w u n l h
  rcases h.2 with ⟨e1,_⟩| ⟨g,c,cur,fz,bo,e1,_⟩
  ·exact ⟨_,_,_,e1⟩
  ·exact ⟨_,_,_,e1⟩
 have hold : ∀b,v.ownBlock=some b→B≤b:=by
  intro b hb
  rcases hown.2 with ⟨e1,_⟩| ⟨g,c,cur,fz,bo,e1,e2,_⟩
  ·rw [e1] at hb;cases hb
  ·rw [e1] at hb;cases hb;exact e2
 have hBel:Below B w w':=(Below.refl B w).grown hgr hI.base (fun k hk=>hold k hk)
 have hkeep : ∀b k,env.prot b k→w'.heap[b]? = w.heap[b]?:=fun b k hp=>by
  refine hgr.block b (hI.inheap b k hp) fun h=>?_
  exact (hfree b h.symm).1 k hp
 have hpush:=put_obj hI hk0 hv0 (w':=w') (u:=v') (o:=.row e (xs ++ ys)) hBel hkeep
  (fun j u b h1 h2 h3=>hgr.block b (live_block hI h1 h2 h3) fun h=>(hfree b h.symm).2 j u h3 h1 h2)
  (fun b hb' _=>by
   rw [hOB v' b (hvs hown')] at hb'
   rcases hblk with h | h
   ·rw [h] at hb';exact hfree b hb'
   ·rw [h] at hb';cases hb'
    exact ⟨fun k hp=>absurd (hI.inheap _ k hp) (by omega),fun j u h1 h2 h3=>absurd (live_block hI h2 h3 h1) (by omega)⟩)
 have hE0:Ext B H.length env w ⟨fun j=>if j=k0 then some v' else env.val j,env.prot⟩ w':=⟨hBel,fun j u hj h=>by simp only;rw [if_neg (fun e=>by subst e;rw [hv0] at h;cases h)];exact h,fun _ _ h=>h,hkeep,fun _ _ h => .inl h⟩
 obtain ⟨hI',hE'⟩:= hpush ⟨v',us ++ news,rfl,by rw [List.length_append];exact hown',fun j k hj hk=>((hxs.append hS hr).ext hE0 hI.fresh).2 j k hj⟩
 obtain ⟨a',n',c',rfl⟩:= hvs hown'
 exact ⟨_,w',_,hrun,fun i hi=>by simp [hi], .gs _ a' n' c' (by simp),hI',hE'⟩
theorem cell_any (hS:SigOk C.S) (t:TypeId) (x:C.S.El t) {j:Nat} (hj : ¬j < C.S.sz t): (C.S.cell t x).getD j AV.any = .any:=by
 have:=hS.len t x
 generalize C.S.cell t x=cs at this ⊢
 rw [List.getD,List.getElem?_eq_none (by omega)];rfl
theorem min_mul (a b k:Nat): min a b*k=min (a*k) (b*k):= by
 rcases Nat.le_total a b with h | h
 ·rw [Nat.min_eq_left h,Nat.min_eq_left (Nat.mul_le_mul_right _ h)]
 ·rw [Nat.min_eq_right h,Nat.min_eq_right (Nat.mul_le_mul_right _ h)]
theorem RowG.take (hS:SigOk C.S) {t:TypeId} {xs:List (C.S.El t)} {us:List Value} (h:RowG C env w t xs us) (n:Nat): RowG C env w t (xs.take n) (us.take (n*C.S.sz t)):= by
 refine ⟨by rw [List.length_take,List.length_take,h.1,min_mul],fun i j hi=>?_⟩
 simp only [List.length_take] at hi
 by_cases hj:j < C.S.sz t
 ·have e1:(xs.take n).getD i (C.S.dflt t)= xs.getD i (C.S.dflt t):= by simp only [List.getD,List.getElem?_take];rw [if_pos (by omega)]
  have hm:(i+1)* C.S.sz t≤n*C.S.sz t:=Nat.mul_le_mul_right _ (by omega)
  rw [Nat.add_mul,Nat.one_mul] at hm
  have e2:(us.take (n*C.S.sz t)).getD (i*C.S.sz t+j) undef=us.getD (i*C.S.sz t+j) undef:=by simp only [List.getD,List.getElem?_take];rw [if_pos (by omega)]
  rw [e1,e2]
  exact h.2 i j (by omega)
 ·rw [cell_any hS t _ hj];exact .any _
theorem RowG.drop {t:TypeId} {xs:List (C.S.El t)} {us:List Value} (h:RowG C env w t xs us) (n:Nat): RowG C env w t (xs.drop n) (us.drop (n*C.S.sz t)):= by
 refine ⟨by rw [List.length_drop,List.length_drop,h.1,Nat.sub_mul],fun i j hi=>?_⟩
 simp only [List.length_drop] at hi
 have e1:(xs.drop n).getD i (C.S.dflt t)= xs.getD (n+i) (C.S.dflt t):= by simp only [List.getD,List.getElem?_drop]
 have e2:(us.drop (n*C.S.sz t)).getD (i*C.S.sz t+j) undef=us.getD ((n+i)* C.S.sz t+j) undef:=by
  simp only [List.getD,List.getElem?_drop]
  rw [Nat.add_mul,Nat.add_assoc]
 rw [e1,e2]
 exact h.2 _ j (by omega)
theorem fit_typ {t e:TypeId} (h:elemT C.P t=some e): C.P.underlying t=some (.slice e):= by
 unfold elemT at h
 split at h
 ·cases h;assumption
 ·cases h
theorem zeroFit_run {e:TypeId} {i:TypeInfo} (hi:C.P.info? e=some i) (h:zeroFit C.P e=true): ∃z,i.zero=some z∧z.cells.size=i.size:=by
 unfold zeroFit at h
 rw [hi] at h
 simp only [Option.bind_some] at h
 cases hz:i.zero with
 | none=>rw [hz] at h;cases h
 | some z =>
  rw [hz] at h
  refine ⟨z,rfl, ?_⟩
  have:=Nat.eq_of_beq_eq_true h
  simpa [sizeT,hi] using this
theorem call_ct (hC:CxOk C) (hI:Inv C.S B env w H) {o:Oper} {a:Act} {c:Call} {rho:Operand→AV C.S.El} (hop:o.op = .call c) (hρ : ∀x∈c.operands.toList,Γ C.S env w (rho x) (a.eval x)) {f:FuncId} {args:List (AV C.S.El)} (ht:targetOf rho c=some (f,args))
  {ct:Ct C.S.El} (hT:C.T f=some ct) {ps:List Prop} {r:AV C.S.El} {news:List (AObj C.S.El)} (hct:ct (argsA C.P c H args)= some (ps,r,news)) (hp : ∀p∈ps,p) (hcl:(argsA C.P c H args).all (lt1 0)= true):
  Does C.P o a w fun v w' => ∃env',Γ C.S env' w' (sh2 H.length r) v∧Inv C.S B env' w' (freezeAll H (args.flatMap owns1)++ news)∧Ext B H.length env w env' w'∧Below w.heap.size w w':=by
 obtain ⟨x,fs,vs,hc2,hx,hg⟩:= targetOf_sound (e:=a.eval) (env:=env) (w:=w) ht hρ
 have hrun:=run_call (C:=C) (w:=w) (o:=o) (e:=a.eval) hop hc2 hx (hC.plainT f ct hT)
 obtain ⟨env1,v1,I1,E1,l1,g1⟩:= args_sound hC.sig hI c hg
 have hcall:=hC.ct f ct hT _ _ _ _ hct hp hcl B env1 w _ _ g1 I1
 unfold Does
 rw [hrun]
 simp only [Array.toArray_toList] at hcall
 refine hcall.mono fun e w' ⟨v,env2,he,hΓ,hI2,hE2,hbel⟩=> ⟨v,he,env2, ?_,hI2, ?_,hbel⟩
 ·rw [l1] at hΓ;exact hΓ
 ·rw [l1] at hE2;exact E1.trans hE2
theorem Γ.scal {S:Sig} {env env':Env} {w w':World} {c:AV S.El} {v:Value} (h:Γ S env w c v) (hc:isScal c=true∨c = .any): Γ S env' w' c v:=by
 rcases hc with hc | rfl
 ·cases c <;> simp only [isScal,Bool.false_eq_true] at hc
  cases h.unv
  exact .v _
 ·exact .any _
theorem scal_at {El:TypeId→Type} {cs:List (AV El)} (h:cs.all isScal=true) (j:Nat): isScal (cs.getD j .any)= true∨cs.getD j .any = .any:=by
 by_cases hj:j < cs.length
 ·refine .inl (List.all_eq_true.1 h _ ?_)
  simp [List.getD,List.getElem?_eq_getElem hj]
 ·refine .inr ?_
  simp [List.getD,List.getElem?_eq_none (Nat.le_of_not_lt hj)]
theorem unif_all {S:Sig} (hU:SigOk S) {t:TypeId} (h:(S.cell t (S.dflt t)).all isScal=true) (x:S.El t): (S.cell t x).all isScal=true:=by
 have e:=hU.unif t x
 have:(S.cell t x).all isScal=((S.cell t x).map isScal).all id:=by simp [List.all_map]
 rw [this,e]
 simpa [List.all_map] using h
theorem OwnsR.base {w:World} {b b':Nat} {e:TypeId} {size:Nat} {v:Value} {n:Nat} {xs:List Value} (h:OwnsR w b e size v n xs) (hb:b'≤b): OwnsR w b' e size v n xs:=by
 refine ⟨h.1,h.2.imp id ?_⟩
 rintro ⟨g,cap,cur,fz,bo,h1,h2,h3⟩
 exact ⟨g,cap,cur,fz,bo,h1,Nat.le_trans hb h2,h3⟩
theorem ObjOk.scal {S:Sig} (hU:SigOk S) {env env':Env} {w:World} {B B':Nat} {v:Option Value} {o:AObj S.El} (h:ObjOk S env w B v o) (ho:scalObj S o=true∨o = .gone) (hB:B'≤B): ObjOk S env' w B' v o:=by
 rcases ho with ho | rfl
 ·cases o with
  | cells cs =>
   obtain ⟨b,vs,T,h1,h2,h3,h4⟩:= h
   exact ⟨b,vs,T,h1,Nat.le_trans hB h2,h3,h4.1,fun j=>(h4.2 j).scal (scal_at ho j)⟩
  | row t xs =>
   obtain ⟨u,ws,h1,h2,h3⟩:= h
   exact ⟨u,ws,h1,h2.base hB,fun i j hi hj=>(h3 i j hi hj).scal (scal_at (unif_all hU ho _) j)⟩
  | _=>cases ho
 ·trivial
theorem live_base (hI:Inv C.S B env w H) {i:Nat} {u:Value} {b:Nat} (h1:env.val i=some u) (h2:blkV u=some b) (h3:live (obj H i)= true): B≤b:=by
 have ho:=hI.objs i
 cases hobj:obj H i with
 | cells cs =>
  rw [hobj] at ho
  obtain ⟨b',vs,T,e1,e3,e2,_⟩:= ho
  rw [h1] at e1;cases e1
  cases h2
  exact e3
 | row t xs =>
  rw [hobj] at ho
  obtain ⟨u',ws,e1,e2,_⟩:= ho
  rw [h1] at e1;cases e1
  rcases e2.2 with ⟨e3,_⟩| ⟨g,cap,cur,fz,bo,e3,e5,e4,_⟩
  ·rw [e3] at h2;cases h2
  ·rw [e3] at h2;cases h2
   exact e5
 | mp k ks vs =>
  rw [hobj] at ho
  obtain ⟨b',es,ck,e1,e3,_⟩:= ho
  rw [h1] at e1;cases e1
  cases h2
  exact e3
 | _=>rw [hobj] at h3;cases h3
theorem live_val (hI:Inv C.S B env w H) {i:Nat} (h3:live (obj H i)= true): ∃u,env.val i=some u:=by
 have ho:=hI.objs i
 cases hobj:obj H i with
 | cells cs =>
  rw [hobj] at ho
  obtain ⟨b',vs,T,e1,_⟩:= ho
  exact ⟨_,e1⟩
 | row t xs =>
  rw [hobj] at ho
  obtain ⟨u',ws,e1,_⟩:= ho
  exact ⟨_,e1⟩
 | mp k ks vs =>
  rw [hobj] at ho
  obtain ⟨b',es,ck,e1,_⟩:= ho
  exact ⟨_,e1⟩
 | _=>rw [hobj] at h3;cases h3
theorem gsScal2_sound {env':Env} {w':World} {r:AV C.S.El} {n:Nat} {v:Value} (hv:env'.val=env.val) (hr:gsScal2 r=true) (h:Γ C.S env w (sh2 n r) v): Γ C.S env' w' (sh2 n r) v:=by
 have s0 : ∀{x:AV C.S.El} {u:Value},gsScal x=true→Γ C.S env w (sh n x) u→Γ C.S env' w' (sh n x) u:=by
  intro x u hx h
  cases x <;> simp only [gsScal,Bool.false_eq_true] at hx
  ·simp only [sh] at h ⊢
   cases h.unv
   exact .v _
  ·simp only [sh] at h ⊢
   cases h with | gs _ a n c h=>exact .gs _ a n c (by rw [hv];exact h)
 have s1 : ∀{x:AV C.S.El} {u:Value},gsScal1 x=true→Γ C.S env w (sh1 n x) u→Γ C.S env' w' (sh1 n x) u:=by
  intro x u hx h
  cases x
  case agg cs =>
   simp only [sh1] at h ⊢
   obtain ⟨vs,rfl,hvs⟩:= h.unagg
   refine G2.agg ⟨hvs.1,fun j=>?_⟩
   have:=hvs.2 j
   simp only [List.getD,List.getElem?_map] at this ⊢
   cases hc:cs[j]? with
   | none=>simpa using Γ.any (S:=C.S) _
   | some c =>
    rw [hc] at this
    exact s0 ((List.all_eq_true.1 hx) c (List.mem_of_getElem? hc)) this
  all_goals (simp only [gsScal1,sh1] at hx h ⊢;exact s0 hx h)
 cases r
 case tup cs =>
  simp only [sh2] at h ⊢
  obtain ⟨vs,rfl,hvs⟩:= h.untup
  refine .tup _ _ (by simpa using hvs.1) fun j=>?_
  have:=hvs.2 j
  simp only [List.getD,List.getElem?_map] at this ⊢
  cases hc:cs[j]? with
  | none=>simpa using Γ.any (S:=C.S) _
  | some c =>
   rw [hc] at this
   exact s1 ((List.all_eq_true.1 hr) c (List.mem_of_getElem? hc)) this
 all_goals (simp only [gsScal2,sh2] at hr h ⊢;exact s1 hr h)
theorem call_own (hC:CxOk C) (hI:Inv C.S B env w H) {o:Oper} {a:Act} {c:Call} {rho:Operand→AV C.S.El} (hop:o.op = .call c) (hρ : ∀x∈c.operands.toList,Γ C.S env w (rho x) (a.eval x)) {f:FuncId} {args:List (AV C.S.El)} (ht:targetOf rho c=some (f,args))
  {ct:Ct C.S.El} (hT:C.T f=some ct) {ps:List Prop} {r:AV C.S.El} {news:List (AObj C.S.El)} (hct:ct (argsA C.P c H args)= some (ps,r,news)) (hp : ∀p∈ps,p) (hcl:(argsA C.P c H args).all (lt1 0)= true)
  (hn:news.all (scalObj C.S)= true) (hr:gsScal2 r=true):
  Does C.P o a w fun v w' => ∃env',Γ C.S env' w' (sh2 H.length r) v∧Inv C.S B env' w' (H ++ news)∧Ext B H.length env w env' w'∧Below w.heap.size w w':=by
 obtain ⟨x,fs,vs,hc2,hx,hg⟩:= targetOf_sound (e:=a.eval) (env:=env) (w:=w) ht hρ
 have hrun:=run_call (C:=C) (w:=w) (o:=o) (e:=a.eval) hop hc2 hx (hC.plainT f ct hT)
 obtain ⟨env1,v1,I1,E1,l1,g1⟩:= args_sound hC.sig hI c hg
 let G:List (AObj C.S.El):= H.map fun _ => .gone
 have hG : ∀i,obj G i = .gone:=by
  intro i
  rw [obj_nth]
  simp only [G,List.getElem?_map]
  cases H[i]? <;> rfl
 have hGl:G.length=H.length:=List.length_map _
 have IG:Inv C.S w.heap.size env1 w G:=⟨fun i=>by rw [hG i];trivial,fun i v b hl=>by {rw [hG i] at hl;cases hl},fun i j u v b hl=>by {rw [hG i] at hl;cases hl},I1.inheap,fun i v h=>by rw [hGl,←l1];exact I1.fresh i v h,I1.glob,Nat.le_refl _⟩
 have hcall:=hC.ct f ct hT _ _ _ _ hct hp hcl w.heap.size env1 w G _ g1 IG
 unfold Does
 rw [hrun]
 simp only [Array.toArray_toList] at hcall
 refine hcall.mono fun e w' ⟨v,env2,he,hΓ,hI2,hE2,hbel⟩=> ⟨v,he,⟨env2.val,fun b o=>env2.prot b o∧(b < w.heap.size→env.prot b o)⟩, ?_, ?_, ?_,hbel⟩
 ·rw [hGl] at hΓ
  exact gsScal2_sound (env:=env2) (by rfl) hr hΓ
 all_goals
  have hE:Ext B H.length env w ⟨env2.val,fun b o=>env2.prot b o∧(b < w.heap.size→env.prot b o)⟩ w' :=
   ⟨hbel.mono hI.base,fun i v hi hv=>hE2.val i v (by rw [hGl];exact hi) (by rw [v1];exact hv),fun b o hp=>⟨hE2.prot b o (E1.prot b o hp),fun _=>hp⟩,fun b o hp=>hE2.keep b o (E1.prot b o hp),
    fun b o hp=>by
     by_cases hb:b < w.heap.size
     ·exact .inl (hp.2 hb)
     ·exact .inr (Nat.le_trans hI.base (Nat.le_of_not_lt hb))⟩
 ·have hlo : ∀i,i < H.length→obj (H ++ news) i=obj H i:=fun i hi=>by simp only [obj_nth];rw [List.getElem?_append_left hi]
  have hhi : ∀i,¬i < H.length→obj (H ++ news) i=obj (G ++ news) i:=fun i hi=>by
   simp only [obj_nth]
   rw [List.getElem?_append_right (by omega),List.getElem?_append_right (by rw [hGl];omega),hGl]
  have hsc : ∀i,¬i < H.length→scalObj C.S (obj (G ++ news) i)= true∨obj (G ++ news) i = .gone:=fun i hi=>by
   simp only [obj_nth]
   rw [List.getElem?_append_right (by rw [hGl];omega)]
   cases hk:news[i - G.length]? with
   | none=>exact .inr rfl
   | some o=>exact .inl ((List.all_eq_true.1 hn) o (List.mem_of_getElem? hk))
  have hold : ∀i v b,i < H.length→live (obj H i)= true→env2.val i=some v→blkV v=some b→env.val i=some v∧b < w.heap.size:=fun i v b hi hl hv hb=>by
   obtain ⟨u,hu⟩:= live_val hI hl
   have:=hE.val i u hi hu
   rw [show (⟨env2.val,fun b o=>env2.prot b o∧(b < w.heap.size→env.prot b o)⟩: Env).val i=env2.val i from rfl,hv] at this
   cases this
   exact ⟨hu,live_block hI hu hb hl⟩
  refine ⟨fun i=>?_,fun i v b hl h1 h2 o hp=>?_,fun i j u v b hl hl' h1 h2 h3 h4=>?_,fun b o hp=>hI2.inheap b o hp.1,fun i v h=>?_,fun g=>(hI.glob g).ext hE hI.fresh,Nat.le_trans hI.base hbel.size⟩
  ·by_cases hi:i < H.length
   ·rw [hlo i hi]
    have ho:=(hI.objs i).ext hE hI.fresh (fun u b h1 h2 h3=>hbel.block b (live_block hI h1 h2 h3))
    cases hv:env.val i with
    | none =>
     rw [hv] at ho
     cases hobj:obj H i with
     | gone=>trivial
     | cells cs=>rw [hobj] at ho;obtain ⟨_,_,_,h,_⟩:= ho;cases h
     | row t xs=>rw [hobj] at ho;obtain ⟨_,_,h,_⟩:= ho;cases h
     | frozen t xs=>rw [hobj] at ho;obtain ⟨_,h,_⟩:= ho;cases h
     | mp k ks vs=>rw [hobj] at ho;obtain ⟨_,_,_,h,_⟩:= ho;cases h
    | some u =>
     rw [hv] at ho
     rw [hE.val i u hi hv]
     exact ho
   ·rw [hhi i hi]
    exact (hI2.objs i).scal hC.sig (hsc i hi) hI.base
  ·by_cases hi:i < H.length
   ·rw [hlo i hi] at hl
    obtain ⟨k1,k2⟩:= hold i v b hi hl h1 h2
    exact hI.free i v b hl k1 h2 o (hp.2 k2)
   ·rw [hhi i hi] at hl
    exact hI2.free i v b hl h1 h2 o hp.1
  ·by_cases hi:i < H.length
   ·rw [hlo i hi] at hl
    obtain ⟨k1,k2⟩:= hold i u b hi hl h1 h3
    by_cases hj:j < H.length
    ·rw [hlo j hj] at hl'
     obtain ⟨k3,k4⟩:= hold j v b hj hl' h2 h4
     exact hI.apart i j u v b hl hl' k1 k3 h3 h4
    ·rw [hhi j hj] at hl'
     have:=live_base hI2 h2 h4 hl'
     omega
   ·rw [hhi i hi] at hl
    by_cases hj:j < H.length
    ·rw [hlo j hj] at hl'
     obtain ⟨k3,k4⟩:= hold j v b hj hl' h2 h4
     have:=live_base hI2 h1 h3 hl
     omega
    ·rw [hhi j hj] at hl'
     exact hI2.apart i j u v b hl hl' h1 h2 h3 h4
  ·have:=hI2.fresh i v h
   rw [List.length_append,hGl] at this
   rw [List.length_append];exact this
 ·exact hE
theorem convB_row (hS:SigOk C.S) (hI:Inv C.S B env w H) {src dst:TypeId} {ax:AV C.S.El} {r:Sigma fun e=>List (C.S.El e)} {vx:Value} (h:convB C src dst ax=some r) (hob:r.2.length≤9223372036854775807) (hx:Γ C.S env w ax vx):
  ∃v w' env',(convert src dst vx).run C.P w = .ok v w'∧Γ C.S env' w' (.gs H.length) v∧Inv C.S B env' w' (H ++ [.row r.1 r.2])∧Ext B H.length env w env' w':=by
 obtain ⟨cap,row,hr,h1,h1',h2,hz,val,h3,h4⟩:= convB_run hS h hx
 have hOM:=oneMore_drew w (.cells row r.1 (row.size,row.size+1))
 have hpush:=push_new hI (u:=.slice (some ⟨w.heap.size,0,none⟩) r.2.length cap) (o:=.row r.1 r.2) hOM (fun b hb=>by cases hb;rfl)
 have hlt:r.2.length*C.S.sz r.1≤row.size:=by rw [h2];exact Nat.mul_le_mul_right _ h1
 obtain ⟨hI',hE'⟩:= hpush ⟨_,row.toList.take (r.2.length*C.S.sz r.1),rfl,⟨by rw [List.length_take,Array.length_toList];omega, .inr ⟨w.heap.size,cap,row,(row.size,row.size+1),0,rfl,hI.base,hOM.new,h1,h1' (by simp only [maxLen];omega),by omega,rfl, .inr (Nat.le_refl _)⟩⟩,fun i j hi hj=>by
  have hj0:j=0:=by omega
  subst hj0
  have e1:(row.toList.take (r.2.length*C.S.sz r.1)).getD (i*C.S.sz r.1+0) undef=val i:=by
   rw [hz,Nat.mul_one,Nat.mul_one,Nat.add_zero,List.getD,List.getElem?_take,if_pos hi]
   have:=h3 i hi
   simp only [Array.getElem?_toList,this,Option.getD_some]
  rw [e1]
  have e2:=h4 i 0 hi ⟨fun i=>if i=H.length then some (.slice (some ⟨w.heap.size,0,none⟩) r.2.length cap) else env.val i,env.prot⟩ (w.drew.alloc (.cells row r.1 (row.size,row.size+1)))
  rwa [hz,Nat.mul_one,Nat.add_zero] at e2⟩
 exact ⟨_,_,_,hr, .gs _ _ _ _ (by simp),hI',hE'⟩
theorem winA_sound (hS:SigOk C.S) (hI:Inv C.S B env w H) {t:TypeId} {alo ahi amx:Option (AV C.S.El)} {lo hi mx:Option Value} {ax r:AV C.S.El} {vx:Value} {ps:List Prop} (h:winA C t H ax alo ahi amx=some (ps,r)) (hp : ∀p∈ps,p)
  (hx:Γ C.S env w ax vx) (hlo : ∀x,alo=some x→∃v,lo=some v∧Γ C.S env w x v) (hhi':ahi=none→hi=none) (hmx':amx=none→mx=none):
  ∃v,(Instr.sliceAt t vx lo hi mx).run C.P w = .ok v w∧Γ C.S env w r v:=by
 unfold winA at h
 split at h
 ·rename_i i k l
  split at h
  ·rename_i u xs hobj
   obtain ⟨hc,h⟩:= cond_some h
   cases h
   simp only [Bool.and_eq_true] at hc
   obtain ⟨e,he⟩:= isSl_run hc.1.2
   obtain ⟨d,e',hd,hde,hsz⟩:= fitE_run hc.2
   rw [he] at hd;cases hd
   rcases hde with hde | ⟨_,hde⟩ <;> cases hde
   obtain ⟨inf,hi1,hi2⟩:= size_run hS hsz
   obtain ⟨p1,p2⟩:= hp _ (List.mem_singleton.2 rfl)
   cases hhi' rfl
   cases hmx' rfl
   obtain ⟨vl,rfl,hl⟩:= hlo _ rfl
   cases hl.unv
   have ho:=hI.objs i
   rw [hobj] at ho
   obtain ⟨u',ws,q1,q2,q3⟩:= ho
   cases hx with | gs _ a n c hv =>
   rw [hv] at q1;cases q1
   rcases q2.2 with ⟨q4,q5⟩| ⟨g,cap,cur,fz,bo,q4,_,_,q7,_⟩
   ·cases q4
    have hl0:l=0:=by omega
    subst hl0
    have hb:=sliceBounds_run (P:=C.P) (isS:=true) (len:=0) (cap:=0) (lo:=some (.int k 0)) (hi:=none) (mx:=none) (l:=0) (h:=0) (m:=0) (.inr ⟨k,rfl⟩) (.inl ⟨rfl,rfl⟩) (.inl ⟨rfl,rfl⟩) (by omega) (by omega) (by omega) (by omega) w
    exact ⟨_,sliceAt_slice he hi1 hb,by simpa using Γ.gwnil (S:=C.S) (env:=env) (w:=w) u i (0:Int).toNat hv⟩
   ·cases q4
    have hb:=sliceBounds_run (P:=C.P) (isS:=true) (len:=xs.length) (cap:=c) (lo:=some (.int k l)) (hi:=none) (mx:=none) (l:=l) (h:=xs.length) (m:=c) (.inr ⟨k,rfl⟩) (.inl ⟨rfl,rfl⟩) (.inl ⟨rfl,rfl⟩) p1 p2 (by omega) (by omega) w
    refine ⟨_,sliceAt_slice he hi1 hb, ?_⟩
    simp only [Int.toNat_natCast]
    by_cases hm:c=l.toNat
    ·rw [if_pos hm]
     exact .gw u i l.toNat g xs.length c _ _ bo hv (by omega) (fun h=>by omega)
    ·rw [if_neg hm,hi2]
     have ha:(⟨g,bo,none⟩: Addr).add (l.toNat*C.S.sz u)= ⟨g,bo+l.toNat*C.S.sz u,none⟩:= by unfold Addr.add;split <;> simp_all
     simp only [Option.map_some,ha]
     exact .gw u i l.toNat g xs.length c _ _ bo hv (by omega) (fun _=>rfl)
  ·cases h
 ·cases h
theorem tailA_sound (hS:SigOk C.S) (hI:Inv C.S B env w H) {t:TypeId} {alo ahi amx:Option (AV C.S.El)} {lo hi mx:Option Value} {ax r:AV C.S.El} {vx:Value} {ps:List Prop} {H':List (AObj C.S.El)} (h:tailA C t H ax alo ahi amx=some (ps,r,H')) (hp : ∀p∈ps,p)
  (hx:Γ C.S env w ax vx) (hlo : ∀x,alo=some x→∃v,lo=some v∧Γ C.S env w x v) (hhi':ahi=none→hi=none) (hmx':amx=none→mx=none):
  ∃v env',(Instr.sliceAt t vx lo hi mx).run C.P w = .ok v w∧Γ C.S env' w r v∧Inv C.S B env' w H'∧Ext B H.length env w env' w:=by
 unfold tailA at h
 split at h
 ·rename_i i k l
  split at h
  ·rename_i u xs hobj
   obtain ⟨hc,h⟩:= cond_some h
   cases h
   simp only [Bool.and_eq_true] at hc
   obtain ⟨e,he⟩:= isSl_run hc.1.2
   obtain ⟨d,e',hd,hde,hsz⟩:= fitE_run hc.2
   rw [he] at hd;cases hd
   rcases hde with hde | ⟨_,hde⟩ <;> cases hde
   obtain ⟨inf,hi1,hi2⟩:= size_run hS hsz
   obtain ⟨p1,p2⟩:= hp _ (List.mem_singleton.2 rfl)
   cases hhi' rfl
   cases hmx' rfl
   obtain ⟨vl,rfl,hl⟩:= hlo _ rfl
   cases hl.unv
   have ho:=hI.objs i
   rw [hobj] at ho
   obtain ⟨u',ws,q1,q2,q3⟩:= ho
   have hrow:RowG C env w u xs ws:=⟨q2.1,fun i j hi=>by
    by_cases hj:j < C.S.sz u
    ·exact q3 i j hi hj
    ·rw [cell_any hS u _ hj];exact .any _⟩
   cases hx with | gs _ a n c hv =>
   rw [hv] at q1;cases q1
   have hlive:live (obj H i)= true:=by rw [hobj];rfl
   have hlt:i < H.length:=hI.fresh i _ hv
   have hfg:=hI.forget i
   have hlen:(setN H i .gone).length=H.length:=by rw [setN_eq,List.length_set]
   have go : ∀(b':Option Addr) (m c':Nat),(∀g,blkV (.slice b' m c')= some g→blkV (.slice a n c)= some g)→(Instr.sliceAt t (.slice a n c) (some (.int k l)) none none).run C.P w = .ok (.slice b' m c') w→
     OwnsR w B u (C.S.sz u) (.slice b' m c') (xs.drop l.toNat).length (ws.drop (l.toNat*C.S.sz u))→
     ∃v env',(Instr.sliceAt t (.slice a n c) (some (.int k l)) none none).run C.P w = .ok v w∧Γ C.S env' w (.gs H.length) v∧Inv C.S B env' w (setN H i .gone ++ [.row u (xs.drop l.toNat)])∧Ext B H.length env w env' w:=by
    intro b' m c' hb hrun how
    have hpush:=push_obj hfg (w':=w) (u:=.slice b' m c') (o:=.row u (xs.drop l.toNat)) (Below.refl B w) (fun _ _ _=>rfl) (fun _ _ _ _ _ _=>rfl) (fun g hg _=>by
     have hg':=hb g hg
     refine ⟨hI.free i _ g hlive hv hg',fun j u1 h1 h2 h3=>?_⟩
     rw [obj_set H i j _ hlt] at h1
     by_cases hij:i=j
     ·rw [if_pos hij] at h1;cases h1
     ·rw [if_neg hij] at h1
      exact hij (hI.apart i j _ u1 g hlive h1 hv h2 hg' h3))
    rw [hlen] at hpush
    have hE0:Ext B H.length env w ⟨fun j=>if j=H.length then some (.slice b' m c') else env.val j,env.prot⟩ w:=⟨Below.refl _ _,fun j u hj h=>by simp only;rw [if_neg (by omega)];exact h,fun _ _ h=>h,fun _ _ _=>rfl,fun _ _ h => .inl h⟩
    obtain ⟨hI',hE'⟩:= hpush ⟨_,_,rfl,how,fun p q hp hq=>(((hrow.drop l.toNat).ext hE0 hI.fresh).2 p q hp)⟩
    exact ⟨_,_,hrun, .gs _ b' m c' (by simp),hI',hE'⟩
   rcases q2.2 with ⟨q4,q5⟩| ⟨g,cap,cur,fz,bo,q4,q6,q7,q8,q9,q10,q11,q12⟩
   ·cases q4
    have hl0:l=0:=by omega
    subst hl0
    have hb:=sliceBounds_run (P:=C.P) (isS:=true) (len:=0) (cap:=0) (lo:=some (.int k 0)) (hi:=none) (mx:=none) (l:=0) (h:=0) (m:=0) (.inr ⟨k,rfl⟩) (.inl ⟨rfl,rfl⟩) (.inl ⟨rfl,rfl⟩) (by omega) (by omega) (by omega) (by omega) w
    have hr:=sliceAt_slice he hi1 hb (a:=none)
    refine go none 0 0 (fun g hg=>hg) (by simpa using hr) ⟨(hrow.drop 0).1, .inl ⟨rfl, ?_⟩⟩
    simp only [Int.toNat_zero,List.drop_zero];exact q5
   ·cases q4
    have hb:=sliceBounds_run (P:=C.P) (isS:=true) (len:=xs.length) (cap:=c) (lo:=some (.int k l)) (hi:=none) (mx:=none) (l:=l) (h:=xs.length) (m:=c) (.inr ⟨k,rfl⟩) (.inl ⟨rfl,rfl⟩) (.inl ⟨rfl,rfl⟩) p1 p2 (by omega) (by omega) w
    have hr:=sliceAt_slice he hi1 hb (a:=some ⟨g,bo,none⟩)
    have hln:(xs.drop l.toNat).length=xs.length - l.toNat:=List.length_drop
    have hmul:l.toNat*C.S.sz u+(c - l.toNat)* C.S.sz u=c*C.S.sz u:=by rw [←Nat.add_mul];congr 1;omega
    have hmul2:(xs.length - l.toNat)* C.S.sz u=xs.length*C.S.sz u - l.toNat*C.S.sz u:=Nat.sub_mul _ _ _
    have ha:(⟨g,bo,none⟩: Addr).add (l.toNat*C.S.sz u)= ⟨g,bo+l.toNat*C.S.sz u,none⟩:= by unfold Addr.add;split <;> simp_all
    simp only [Int.toNat_natCast] at hr
    by_cases hm:c=l.toNat
    ·rw [if_pos hm] at hr
     refine go (some ⟨g,bo,none⟩) (xs.length - l.toNat) (c - l.toNat) (fun g hg=>hg) hr ⟨(hrow.drop l.toNat).1, .inr ⟨g,c - l.toNat,cur,fz,bo, ?_,q6,q7, ?_, ?_, ?_, ?_,q12⟩⟩
     ·rw [hln]
     ·omega
     ·omega
     ·rw [hm,Nat.sub_self,Nat.zero_mul];omega
     ·have h0:xs.length - l.toNat=0:=by omega
      rw [hln,h0,Nat.zero_mul,List.take_zero]
      refine (List.drop_of_length_le ?_).symm
      rw [q2.1]
      exact Nat.mul_le_mul_right _ (by omega)
    ·rw [if_neg hm,hi2] at hr
     simp only [Option.map_some,ha] at hr
     refine go (some ⟨g,bo+l.toNat*C.S.sz u,none⟩) (xs.length - l.toNat) (c - l.toNat) (fun g hg=>hg) hr ⟨(hrow.drop l.toNat).1, .inr ⟨g,c - l.toNat,cur,fz,bo+l.toNat*C.S.sz u, ?_,q6,q7, ?_, ?_, ?_, ?_,q12⟩⟩
     ·rw [hln]
     ·omega
     ·omega
     ·omega
     ·rw [hln,←q11,←List.drop_drop,List.drop_take,hmul2]
  ·cases h
 ·cases h
theorem tail_at (hS:SigOk C.S) (hI:Inv C.S B env w H) {t:TypeId} {i:Nat} {u:TypeId} {xs:List (C.S.El u)} (hobj:obj H i = .row u xs) (hsl:isSl C.P t=true) (hfit:fitE C t u=true) {l:Int} {k:IntKind} (hp:0≤l∧l≤xs.length) {vx:Value} (hx:Γ C.S env w (.gs i) vx) {k0:Nat} (hk0:k0 < H.length) (hv0:env.val k0=none):
  ∃v env',(Instr.sliceAt t vx (some (.int k l)) none none).run C.P w = .ok v w∧(∀j,j≠k0→env'.val j=env.val j)∧Γ C.S env' w (.gs k0) v∧Inv C.S B env' w ((setN H i .gone).set k0 (.row u (xs.drop l.toNat)))∧Ext B H.length env w env' w:=by
 obtain ⟨e,he⟩:= isSl_run hsl
 obtain ⟨d,e',hd,hde,hsz⟩:= fitE_run hfit
 rw [he] at hd;cases hd
 rcases hde with hde | ⟨_,hde⟩ <;> cases hde
 obtain ⟨inf,hi1,hi2⟩:= size_run hS hsz
 obtain ⟨p1,p2⟩:= hp
 have ho:=hI.objs i
 rw [hobj] at ho
 obtain ⟨u',ws,q1,q2,q3⟩:= ho
 have hrow:RowG C env w u xs ws:=⟨q2.1,fun i j hi=>by
  by_cases hj:j < C.S.sz u
  ·exact q3 i j hi hj
  ·rw [cell_any hS u _ hj];exact .any _⟩
 cases hx with | gs _ a n c hv =>
 rw [hv] at q1;cases q1
 have hlive:live (obj H i)= true:=by rw [hobj];rfl
 have hlt:i < H.length:=hI.fresh i _ hv
 have hfg:=hI.forget i
 have hlen:(setN H i .gone).length=H.length:=by rw [setN_eq,List.length_set]
 have go : ∀(b':Option Addr) (m c':Nat),(∀g,blkV (.slice b' m c')= some g→blkV (.slice a n c)= some g)→(Instr.sliceAt t (.slice a n c) (some (.int k l)) none none).run C.P w = .ok (.slice b' m c') w→
   OwnsR w B u (C.S.sz u) (.slice b' m c') (xs.drop l.toNat).length (ws.drop (l.toNat*C.S.sz u))→
   ∃v env',(Instr.sliceAt t (.slice a n c) (some (.int k l)) none none).run C.P w = .ok v w∧(∀j,j≠k0→env'.val j=env.val j)∧Γ C.S env' w (.gs k0) v∧Inv C.S B env' w ((setN H i .gone).set k0 (.row u (xs.drop l.toNat)))∧Ext B H.length env w env' w:=by
  intro b' m c' hb hrun how
  have hpush:=put_obj hfg (k0:=k0) (by rw [hlen];exact hk0) hv0 (w':=w) (u:=.slice b' m c') (o:=.row u (xs.drop l.toNat)) (Below.refl B w) (fun _ _ _=>rfl) (fun _ _ _ _ _ _=>rfl) (fun g hg _=>by
   have hg':=hb g hg
   refine ⟨hI.free i _ g hlive hv hg',fun j u1 h1 h2 h3=>?_⟩
   rw [obj_set H i j _ hlt] at h1
   by_cases hij:i=j
   ·rw [if_pos hij] at h1;cases h1
   ·rw [if_neg hij] at h1
    exact hij (hI.apart i j _ u1 g hlive h1 hv h2 hg' h3))
  have hE0:Ext B H.length env w ⟨fun j=>if j=k0 then some (.slice b' m c') else env.val j,env.prot⟩ w:=⟨Below.refl _ _,fun j u hj h=>by simp only;rw [if_neg (fun e=>by subst e;rw [hv0] at h;cases h)];exact h,fun _ _ h=>h,fun _ _ _=>rfl,fun _ _ h => .inl h⟩
  obtain ⟨hI',hE'⟩:= hpush ⟨_,_,rfl,how,fun p q hp hq=>(((hrow.drop l.toNat).ext hE0 hI.fresh).2 p q hp)⟩
  rw [hlen] at hE'
  exact ⟨_,_,hrun,fun j hj=>by simp [hj], .gs _ b' m c' (by simp),hI',hE'⟩
 rcases q2.2 with ⟨q4,q5⟩| ⟨g,cap,cur,fz,bo,q4,q6,q7,q8,q9,q10,q11,q12⟩
 ·cases q4
  have hl0:l=0:=by omega
  subst hl0
  have hb:=sliceBounds_run (P:=C.P) (isS:=true) (len:=0) (cap:=0) (lo:=some (.int k 0)) (hi:=none) (mx:=none) (l:=0) (h:=0) (m:=0) (.inr ⟨k,rfl⟩) (.inl ⟨rfl,rfl⟩) (.inl ⟨rfl,rfl⟩) (by omega) (by omega) (by omega) (by omega) w
  have hr:=sliceAt_slice he hi1 hb (a:=none)
  refine go none 0 0 (fun g hg=>hg) (by simpa using hr) ⟨(hrow.drop 0).1, .inl ⟨rfl, ?_⟩⟩
  simp only [Int.toNat_zero,List.drop_zero];exact q5
 ·cases q4
  have hb:=sliceBounds_run (P:=C.P) (isS:=true) (len:=xs.length) (cap:=c) (lo:=some (.int k l)) (hi:=none) (mx:=none) (l:=l) (h:=xs.length) (m:=c) (.inr ⟨k,rfl⟩) (.inl ⟨rfl,rfl⟩) (.inl ⟨rfl,rfl⟩) p1 p2 (by omega) (by omega) w
  have hr:=sliceAt_slice he hi1 hb (a:=some ⟨g,bo,none⟩)
  have hln:(xs.drop l.toNat).length=xs.length - l.toNat:=List.length_drop
  have hmul:l.toNat*C.S.sz u+(c - l.toNat)* C.S.sz u=c*C.S.sz u:=by rw [←Nat.add_mul];congr 1;omega
  have hmul2:(xs.length - l.toNat)* C.S.sz u=xs.length*C.S.sz u - l.toNat*C.S.sz u:=Nat.sub_mul _ _ _
  have ha:(⟨g,bo,none⟩: Addr).add (l.toNat*C.S.sz u)= ⟨g,bo+l.toNat*C.S.sz u,none⟩:= by unfold Addr.add;split <;> simp_all
  simp only [Int.toNat_natCast] at hr
  by_cases hm:c=l.toNat
  ·rw [if_pos hm] at hr
   refine go (some ⟨g,bo,none⟩) (xs.length - l.toNat) (c - l.toNat) (fun g hg=>hg) hr ⟨(hrow.drop l.toNat).1, .inr ⟨g,c - l.toNat,cur,fz,bo, ?_,q6,q7, ?_, ?_, ?_, ?_,q12⟩⟩
   ·rw [hln]
   ·omega
   ·omega
   ·rw [hm,Nat.sub_self,Nat.zero_mul];omega
   ·have h0:xs.length - l.toNat=0:=by omega
    rw [hln,h0,Nat.zero_mul,List.take_zero]
    refine (List.drop_of_length_le ?_).symm
    rw [q2.1]
    exact Nat.mul_le_mul_right _ (by omega)
  ·rw [if_neg hm,hi2] at hr
   simp only [Option.map_some,ha] at hr
   refine go (some ⟨g,bo+l.toNat*C.S.sz u,none⟩) (xs.length - l.toNat) (c - l.toNat) (fun g hg=>hg) hr ⟨(hrow.drop l.toNat).1, .inr ⟨g,c - l.toNat,cur,fz,bo+l.toNat*C.S.sz u, ?_,q6,q7, ?_, ?_, ?_, ?_,q12⟩⟩
   ·rw [hln]
   ·omega
   ·omega
   ·omega
   ·rw [hln,←q11,←List.drop_drop,List.drop_take,hmul2]
theorem clear_sound (hS:SigOk C.S) (hI:Inv C.S B env w H) {c:Call} {rho:Operand→AV C.S.El} {ev:Operand→Value} {H':List (AObj C.S.El)} {ty:TypeId} (h:clearA C c rho H=some H') (hρ : ∀x∈c.args.toList,Γ C.S env w (rho x) (ev x)):
  ∃w',(Builtin.clear_ c.argTypes ty (c.args.map ev)).run C.P w = .ok (.tuple #[]) w'∧Inv C.S B env w' H'∧Ext B H.length env w env w':=by
 unfold clearA at h
 split at h
 ·rename_i u i lo t hargs hts
  split at h
  ·rename_i v xs e hobj he
   split at h
   ·rename_i huv
    subst huv
    split at h
    ·rename_i hev
     subst hev
     split at h
     ·rename_i z hz
      split at h
      ·rename_i d hd
       obtain ⟨hb,h⟩:= cond_some h
       cases h
       simp only [Bool.and_eq_true] at hb
       have hzl:=Nat.eq_of_beq_eq_true hb.1
       have hsz:=Nat.eq_of_beq_eq_true hb.2
       obtain ⟨zv,hzr,rfl,inf,hinf,hiz⟩:= zeroT_run hz
       obtain ⟨x,hx1,hx2⟩: ∃x,c.args.toList=[x]∧rho x = .gw e i lo:=by
        cases hc:c.args.toList with
        | nil=>rw [hc] at hargs;cases hargs
        | cons a l =>
         rw [hc] at hargs
         cases l with
         | nil=>exact ⟨a,rfl,by simpa using hargs⟩
         | cons _ _=>simp at hargs
       have hx:=hρ x (by rw [hx1];simp)
       rw [hx2] at hx
       have ha:c.args.map ev = #[ev x]:= by
        apply Array.ext'
        simp [hx1]
       have hat:c.argTypes = #[t]:= by
        apply Array.ext'
        simpa using hts
       have het:=fit_typ he
       have ho:=hI.objs i
       rw [hobj] at ho
       obtain ⟨u',ws,q1,q2,q3⟩:= ho
       rw [ha,hat]
       generalize hev:ev x=vx at hx
       cases hx with
       | gwnil _ _ _ hv =>
        rw [hv] at q1;cases q1
        rcases q2.2 with ⟨q4,q5⟩| ⟨g,cap,cur,fz,bo,q4,_⟩
        ·have hx0:xs=[]:= List.eq_nil_of_length_eq_zero q5
         subst hx0
         have hset:setN H i (.row e (List.take lo ([]: List (C.S.El e))++ List.replicate (([]: List (C.S.El e)).length - lo) d))= H:=by
          have hi:i < H.length:=hI.fresh i _ hv
          rw [setN_eq]
          apply List.ext_getElem?
          intro k
          rw [List.getElem?_set]
          by_cases hk:i=k
          ·subst hk
           rw [if_pos rfl,if_pos hi]
           rw [obj_nth,List.getElem?_eq_getElem hi] at hobj
           rw [List.getElem?_eq_getElem hi]
           simpa using hobj.symm
          ·rw [if_neg hk]
         rw [hset]
         exact ⟨w,by simp [Builtin.clear_,run_underlying het],hI,Ext.refl _ _ _ _⟩
        ·cases q4
       | gw _ _ _ b n cap0 off cc bo hv hl hoff =>
        rw [hv] at q1;cases q1
        rcases q2.2 with ⟨q4,q5⟩| ⟨g,cap,cur,fz,bo',q4,q5,q6,q7,q8,q9,q10,q11⟩
        ·cases q4
        cases q4
        by_cases hlo:lo < xs.length
        ·have hoff:=hoff hlo
         subst hoff
         have hpos:=hS.pos e
         have hzlen:zv.cells.toList.length=C.S.sz e:=by simpa using hzl
         have hzs:zv.cells.size=C.S.sz e:=by simpa using hzl
         obtain ⟨k,hk⟩: ∃k,xs.length - lo=k+1:=⟨xs.length - lo - 1,by omega⟩
         have hzc:(Builtin.zeroCells zv.cells (xs.length - lo)).toList=rep (xs.length - lo) zv.cells.toList:=by
          apply List.ext_getElem?
          intro q
          rw [rep_get _ (by omega),hzlen]
          simp only [Builtin.zeroCells,Array.toList_map,List.getElem?_map,hzs,Array.toList_range]
          by_cases hq:q < (xs.length - lo)* C.S.sz e
          ·rw [if_pos hq]
           have hm:q % C.S.sz e < zv.cells.size:=by rw [hzs];exact Nat.mod_lt _ hpos
           simp [List.getElem?_range,hq,hm,getElem!_pos]
          ·rw [if_neg hq]
           simp [List.getElem?_range,hq]
         have hrl:(rep (xs.length - lo) zv.cells.toList).length=(xs.length - lo)* C.S.sz e:=by rw [rep_len,hzlen]
         have hcap:bo+xs.length*C.S.sz e≤cur.size:=by
          have:=Nat.mul_le_mul_right (C.S.sz e) q7
          omega
         have hsum:lo*C.S.sz e+(xs.length - lo)* C.S.sz e=xs.length*C.S.sz e:=by rw [←Nat.add_mul];congr 1;omega
         have hone : ∀v∈rep (xs.length - lo) zv.cells.toList,v.oneCell'=true:=by
          intro v hv
          have h1 : ∀v∈zv.cells.toList,v.oneCell'=true:=fun v hv=>by
           have hg:G2 C.S env w (C.S.cell e d) zv.cells.toList:=hS.dec e _ d hd env w _ (G2.vmap _)
           refine ones_cell (C.S.cell e d) _ ?_ hg v hv
           exact List.all_eq_true.2 fun c hc=>(hS.flat e d c hc).2
          have h2 : ∀n,∀v∈rep n zv.cells.toList,v∈zv.cells.toList:=by
           intro n
           induction n with
           | zero=>intro v hv;cases hv
           | succ n ih=>intro v hv;rcases List.mem_append.1 hv with h | h;exact h;exact ih v h
          exact h1 v (h2 _ v hv)
         have hst:=run_storeCells_fz C.P b (bo+lo*C.S.sz e) e fz (rep (xs.length - lo) zv.cells.toList) 0 cur w q6 q11 (by rw [hrl];omega) hone
         simp only [Nat.add_zero] at hst
         rw [hrl,Nat.add_assoc,hsum] at hst
         have hset:=set_obj (o:=.row e (xs.take lo ++ List.replicate (xs.length - lo) d)) hI hv (b:=b) rfl (by rw [hobj];rfl) (below_setRow (Below.refl B w) q5 (cur.toList.take (bo+lo*C.S.sz e)++ rep (xs.length - lo) zv.cells.toList ++ cur.toList.drop (bo+xs.length*C.S.sz e)).toArray) (fun k hk=>setRow_other w b k _ hk) (fun hE=>?_) rfl
         ·refine ⟨_, ?_,hset.1,hset.2⟩
          rw [hk] at hst hzc ⊢
          simp [Builtin.clear_,run_underlying het,hzr,hzc,hst]
         ·have hlen:(xs.take lo ++ List.replicate (xs.length - lo) d).length=xs.length:=by simp;omega
          refine ⟨_,ws.take (lo*C.S.sz e)++ rep (xs.length - lo) zv.cells.toList,rfl,⟨?_, .inr ⟨b,cap0,_,fz,bo,by rw [hlen],q5,setRow_heap w b cur _ e fz q6,by rw [hlen];exact q7,q8, ?_, ?_, ?_⟩⟩,fun p q hp hq=>?_⟩
          ·rw [hlen,List.length_append,List.length_take,hrl,q2.1];omega
          ·simp only [List.size_toArray,List.length_append,List.length_take,List.length_drop,Array.length_toList,hrl];omega
          ·rw [hlen]
           show List.take _ (List.drop bo (cur.toList.take (bo+lo*C.S.sz e)++ rep (xs.length - lo) zv.cells.toList ++ cur.toList.drop (bo+xs.length*C.S.sz e)))= _
           rw [show bo+xs.length*C.S.sz e=bo+lo*C.S.sz e+(rep (xs.length - lo) zv.cells.toList).length by rw [hrl];omega,splice_off _ _ _ _ (by simp;omega)]
           have h1:((cur.toList.drop bo).take (lo*C.S.sz e)++ rep (xs.length - lo) zv.cells.toList).length=xs.length*C.S.sz e:=by
            rw [List.length_append,List.length_take,List.length_drop,Array.length_toList,hrl];omega
           rw [←h1,List.take_left]
           subst q10
           rw [List.take_take,Nat.min_eq_left (by omega)]
          ·refine q11.imp id fun h=>?_
           simp only [List.size_toArray,List.length_append,List.length_take,List.length_drop,Array.length_toList,hrl];omega
          ·rw [hlen] at hp
           have hpq:p*C.S.sz e+q < (p+1)* C.S.sz e:=by rw [Nat.add_mul,Nat.one_mul];omega
           have hN:=hI.fresh
           by_cases hpl:p < lo
           ·have hm:(p+1)* C.S.sz e≤lo*C.S.sz e:=Nat.mul_le_mul_right _ hpl
            have e1:(xs.take lo ++ List.replicate (xs.length - lo) d).getD p (C.S.dflt e)= xs.getD p (C.S.dflt e):= by
             simp only [List.getD,List.getElem?_append,List.length_take,List.getElem?_take]
             rw [if_pos (by omega),if_pos hpl]
            have e2:(ws.take (lo*C.S.sz e)++ rep (xs.length - lo) zv.cells.toList).getD (p*C.S.sz e+q) undef=ws.getD (p*C.S.sz e+q) undef:=by
             have hwl:=q2.1
             simp only [List.getD,List.getElem?_append,List.length_take,List.getElem?_take]
             rw [if_pos (by omega),if_pos (by omega)]
            rw [e1,e2]
            exact (q3 p q (by omega) hq).ext hE hN
           ·have e1:(xs.take lo ++ List.replicate (xs.length - lo) d).getD p (C.S.dflt e)= d:=by
             simp only [List.getD,List.getElem?_append,List.length_take]
             rw [if_neg (by omega)]
             simp only [List.getElem?_replicate]
             rw [if_pos (by omega)];rfl
            have hm:lo*C.S.sz e≤p*C.S.sz e:=Nat.mul_le_mul_right _ (by omega)
            have hm2:(p+1)* C.S.sz e≤xs.length*C.S.sz e:=Nat.mul_le_mul_right _ hp
            have hwl:(ws.take (lo*C.S.sz e)).length=lo*C.S.sz e:=by rw [List.length_take,q2.1];exact Nat.min_eq_left (Nat.mul_le_mul_right _ (by omega))
            have e3:p*C.S.sz e+q - lo*C.S.sz e=(p - lo)* C.S.sz e+q:=by rw [Nat.sub_mul];omega
            have hm3:(p - lo+1)* C.S.sz e≤(xs.length - lo)* C.S.sz e:=Nat.mul_le_mul_right _ (by omega)
            rw [Nat.add_mul,Nat.one_mul] at hm3
            have e2:(ws.take (lo*C.S.sz e)++ rep (xs.length - lo) zv.cells.toList).getD (p*C.S.sz e+q) undef=zv.cells.toList.getD q undef:=by
             simp only [List.getD,List.getElem?_append,hwl]
             rw [if_neg (by omega),e3,rep_get _ (by omega),hzlen,if_pos (by omega),Nat.mul_comm (p - lo),Nat.mul_add_mod,Nat.mod_eq_of_lt hq]
            rw [e1,e2]
            exact (hS.dec e _ d hd env w _ (G2.vmap _)).2 q |>.ext hE hN
        ·have hn:xs.length - lo=0:=by omega
         have hset:setN H i (.row e (xs.take lo ++ List.replicate (xs.length - lo) d))= H:=by
          have hi:i < H.length:=hI.fresh i _ hv
          rw [hn,List.take_of_length_le (by omega)]
          rw [setN_eq]
          apply List.ext_getElem?
          intro k
          rw [List.getElem?_set]
          by_cases hk:i=k
          ·subst hk
           rw [if_pos rfl,if_pos hi]
           rw [obj_nth,List.getElem?_eq_getElem hi] at hobj
           rw [List.getElem?_eq_getElem hi]
           simpa using hobj.symm
          ·rw [if_neg hk]
         rw [hset]
         exact ⟨w,by simp [Builtin.clear_,run_underlying het,hn],hI,Ext.refl _ _ _ _⟩
      ·cases h
     ·cases h
    ·cases h
   ·cases h
  ·cases h
 ·cases h
theorem mapKey_run {t:TypeId} {k:IntKind} (h:mapKey C.P t=some k): ∃kt et,C.P.underlying t=some (.map kt et)∧C.P.underlying kt=some (.int k):= by
 unfold mapKey at h
 split at h
 ·rename_i kt et hm
  split at h
  ·rename_i kk hk
   cases h
   exact ⟨kt,et,hm,hk⟩
  ·cases h
 ·cases h
theorem keys_are {es:Array MapEntry} {ks:List Int} {k:IntKind} (h:es.toList.map (·.key)= ks.map (.int k ·)): ∀y∈es.toList,∃n∈ks,y.key = .int k n:=by
 intro y hy
 have:y.key∈es.toList.map (·.key):= List.mem_map_of_mem hy
 rw [h] at this
 obtain ⟨n,hn,e⟩:= List.mem_map.1 this
 exact ⟨n,hn,e.symm⟩
theorem putM_sound (hI:Inv C.S B env w H) {t:TypeId} {m k x:AV C.S.El} {vm vk vx:Value} {H':List (AObj C.S.El)} (h:putM C t H m k x=some H') (hm:Γ C.S env w m vm) (hk:Γ C.S env w k vk) (hx:Γ C.S env w x vx):
  ∃w',(Instr.mapUpdate t vm vk vx).run C.P w = .ok () w'∧Inv C.S B env w' H'∧Ext B H.length env w env w':=by
 unfold putM at h
 split at h
 ·rename_i i kk n kt hkt
  split at h
  ·rename_i ko ks vs hobj
   obtain ⟨hc,h⟩:= cond_some h
   cases h
   simp only [Bool.and_eq_true] at hc
   obtain ⟨⟨c1,c2⟩,c3⟩:= hc
   have c1:=eq_of_beq c1
   have c2:=eq_of_beq c2
   subst c1;subst c2
   cases hk.unv
   cases hm with | gm _ b hv =>
   have ho:=hI.objs i
   rw [hobj] at ho
   obtain ⟨b',es,ck,e1,hB,hb,hkeys,hvals⟩:= ho
   rw [hv] at e1;cases e1
   obtain ⟨kT,eT,hmap,hkd⟩:= mapKey_run hkt
   have hfind:Instr.findNow (.int ko) (.int ko n) es.toList 0=some none:=by
    rcases MapKept.findNow_spec (d:=.int ko) (k:=.int ko n) rfl es.toList 0 (fun y hy=>by obtain ⟨z,_,e⟩:= keys_are hkeys y hy;rw [e];rfl) with ⟨h1,_⟩| ⟨j,y,_,h2,h3⟩
    ·exact h1
    ·exfalso
     obtain ⟨z,hz,e⟩:= keys_are hkeys y (List.mem_of_getElem? h2)
     rw [e] at h3
     cases h3
     have:=List.all_eq_true.1 c3 n hz
     simp at this
   obtain ⟨g1,g2⟩:= MapKept.heap_set (o':=.map (es.push {key:=.int ko n,val:=vx,born:=ck}) (ck+1)) hb
   have hset:=set_obj (w':={w with heap:=w.heap.setIfInBounds b (.map (es.push {key:=.int ko n,val:=vx,born:=ck}) (ck+1))}) (o:=.mp ko (ks ++ [n]) (vs ++ [x])) hI hv (b:=b) rfl (by rw [hobj];rfl)
    ⟨rfl,rfl,rfl,by simp,fun k hk=>g2 k (by omega)⟩ g2
    (fun hE=>⟨b,_,_,rfl,hB,g1,by simp [hkeys],by
     have:=((hvals.ext hE hI.fresh).append (G2.single (hx.ext hE hI.fresh)))
     simpa using this⟩) rfl
   refine ⟨_, ?_,hset.1,hset.2⟩
   simp [Instr.mapUpdate,run_underlying hmap,MapKept.run_getObj_map hb,MapKept.run_checkKey hkd (k:=.int ko n) rfl,MapKept.run_findKey hkd hfind,MapKept.run_setObj_map _ hb,Result.andThen]
  ·cases h
 ·cases h
theorem putM_len {t:TypeId} {m k x:AV C.S.El} {H H':List (AObj C.S.El)} (h:putM C t H m k x=some H'): H'.length=H.length:=by
 unfold putM at h
 split at h
 ·split at h
  ·obtain ⟨_,h⟩:= cond_some h
   cases h
   rw [setN_eq,List.length_set]
  ·cases h
 ·cases h
theorem evI_sound (hC:CxOk C) (hI:Inv C.S B env w H) {o:Oper} {a:Act} {rho:Operand→AV C.S.El} (hρ : ∀x∈o.op.operands.toList,Γ C.S env w (rho x) (a.eval x)) {ps:List Prop} {r:AV C.S.El} {H':List (AObj C.S.El)}
  (h:evI C o rho H=some (ps,r,H')) (hp : ∀p∈ps,p): Does C.P o a w (ImpR C B env w H.length r H'):= by
 have hS:=hC.sig
 unfold evI at h
 cases hop:o.op <;> rw [hop] at h hρ <;> simp only [reduceCtorEq] at h
 case box t x =>
  simp only [Option.map_eq_some_iff] at h
  obtain ⟨cs,hcs,h⟩:= h
  cases h
  have hg:=cellsOf_sound hcs (hρ x (by simp [Op.operands]))
  have hOM:=oneMore_alloc w (.cells (a.eval x).cells t)
  have hpush:=push_new hI (u:=.pointer (some ⟨w.heap.size,0,none⟩)) (o:=.cells cs) hOM (fun b hb=>by cases hb;rfl)
  have hE0:Ext B H.length env w ⟨fun j=>if j=H.length then some (.pointer (some ⟨w.heap.size,0,none⟩)) else env.val j,env.prot⟩ (w.alloc (.cells (a.eval x).cells t)):=
   ⟨hOM.below.mono hI.base,fun j u hj h=>by simp only;rw [if_neg (by omega)];exact h,fun _ _ h=>h,fun b k hp=>hOM.below.block b (hI.inheap b k hp),fun _ _ h => .inl h⟩
  obtain ⟨hI',hE'⟩:= hpush ⟨w.heap.size,_,t,rfl,hI.base,hOM.new,hg.ext hE0 hI.fresh⟩
  exact does_value (v:=.pointer (some ⟨w.heap.size,0,none⟩)) (by simp [execOp,hop,Instr.box,newVar,newRow]) ⟨_, .ref _ 0 w.heap.size (by simp),hI',hE'⟩
 case alloc t =>
  simp only [Option.map_eq_some_iff] at h
  obtain ⟨cs,hcs,h⟩:= h
  cases h
  obtain ⟨zv,hzr,rfl,_⟩:= zeroT_run hcs
  have hg:G2 C.S env w (zv.cells.toList.map .v) zv.cells.toList:=G2.vmap _
  have hOM:=oneMore_alloc w (.cells zv.cells t)
  have hpush:=push_new hI (u:=.pointer (some ⟨w.heap.size,0,none⟩)) (o:=.cells (zv.cells.toList.map .v)) hOM (fun b hb=>by cases hb;rfl)
  have hE0:Ext B H.length env w ⟨fun j=>if j=H.length then some (.pointer (some ⟨w.heap.size,0,none⟩)) else env.val j,env.prot⟩ (w.alloc (.cells zv.cells t)):=
   ⟨hOM.below.mono hI.base,fun j u hj h=>by simp only;rw [if_neg (by omega)];exact h,fun _ _ h=>h,fun b k hp=>hOM.below.block b (hI.inheap b k hp),fun _ _ h => .inl h⟩
  obtain ⟨hI',hE'⟩:= hpush ⟨w.heap.size,_,t,rfl,hI.base,hOM.new,hg.ext hE0 hI.fresh⟩
  exact does_value (v:=.pointer (some ⟨w.heap.size,0,none⟩)) (by simp [execOp,hop,Instr.alloc,newVar,newRow,hzr]) ⟨_, .ref _ 0 w.heap.size (by simp),hI',hE'⟩
 case makeMap t r0 =>
  have key : ∃k,(Instr.makeMap t (r0.map a.eval)).run C.P w = .ok (.map (some w.heap.size)) (w.alloc (.map #[] 0))∧(ps,r,H')= (([]: List Prop),AV.gm H.length,H ++ [AObj.mp k [] []]):= by
   split at h
   ·rename_i k hk hr
    cases h
    cases r0 with
    | none=>exact ⟨k,rfl,rfl⟩
    | some x=>cases hr
   ·rename_i k kk n hk hr
    cases h
    cases r0 with
    | none=>cases hr
    | some x =>
     have hx:=hρ x (by simp [Op.operands])
     simp only [Option.map_some,Option.some.injEq] at hr
     rw [hr] at hx
     obtain ⟨kt,et,hm,_⟩:= mapKey_run hk
     refine ⟨k, ?_,rfl⟩
     simp only [Option.map_some]
     rw [hx.unv]
     simp [Instr.makeMap,run_underlying hm,asInt,asIntOf,Result.andThen]
   ·cases h
  obtain ⟨k,hrun,he⟩:= key
  simp only [Prod.mk.injEq] at he
  obtain ⟨rfl,rfl,rfl⟩:= he
  have hOM:=oneMore_alloc w (.map #[] 0)
  have hpush:=push_new hI (u:=.map (some w.heap.size)) (o:=.mp k [] []) hOM (fun b hb=>by cases hb;rfl)
  obtain ⟨hI',hE'⟩:= hpush ⟨w.heap.size,#[],0,rfl,hI.base,hOM.new,rfl,G2.nil⟩
  exact does_value (v:=.map (some w.heap.size)) (by simp [execOp,hop,hrun]) ⟨_, .gm _ w.heap.size (by simp),hI',hE'⟩
 case mapUpdate t m k x =>
  simp only [Option.map_eq_some_iff] at h
  obtain ⟨H2,hH,h⟩:= h
  cases h
  obtain ⟨w',h1,h2,h3⟩:= putM_sound hI hH (hρ m (by simp [Op.operands])) (hρ k (by simp [Op.operands])) (hρ x (by simp [Op.operands]))
  exact does_skip (w':=w') (by simp [execOp,hop,h1]) ⟨env, .any _,h2,h3⟩
 case insert t m k x =>
  simp only [Option.map_eq_some_iff] at h
  obtain ⟨H2,hH,h⟩:= h
  cases h
  obtain ⟨w',h1,h2,h3⟩:= putM_sound hI hH (hρ m (by simp [Op.operands])) (hρ k (by simp [Op.operands])) (hρ x (by simp [Op.operands]))
  exact does_skip (w':=w') (by simp [execOp,hop,h1]) ⟨env, .any _,h2,h3⟩
 case buildSlice t len parts =>
  simp only [Option.map_eq_some_iff] at h
  obtain ⟨sg,hsg,h⟩:= h
  cases h
  obtain ⟨env1,v1,I1,E1,l1,f1⟩:= freezeAll_sound hS (parts.toList.flatMap fun p=>owns1 (rho p.2)) env H hI
  have hρ1 : ∀p∈parts.toList,Γ C.S env1 w (deref1 H (rho p.2)) (a.eval p.2):= by
   intro p hp
   have h1:=(hρ p.2 (by simp only [Op.operands];simp only [Array.toList_map,List.mem_map];exact ⟨p,hp,rfl⟩)).ext E1 hI.fresh
   have e:deref1 H (rho p.2)= deref1 (freezeAll H (parts.toList.flatMap fun p=>owns1 (rho p.2))) (rho p.2):= by
    have hd:deref (freezeAll H (parts.toList.flatMap fun p=>owns1 (rho p.2)))= deref H:=funext fun x=>freezeAll_deref _ H x
    cases rho p.2 <;> simp only [deref1,hd]
   rw [e]
   exact deref1_sound I1 h1 fun j hj=>f1 j (List.mem_flatMap.2 ⟨p,hp,hj⟩)
  generalize freezeAll H (parts.toList.flatMap fun p=>owns1 (rho p.2))= H1 at I1 l1 ⊢
  rw [←l1] at E1 ⊢
  obtain ⟨us,hrun,hrow,hlen,hbd⟩:= buildSliceA_sound (rho:=fun x=>deref1 H (rho x)) (e:=a.eval) (env:=env1) hS hsg (fun x hx=>by
   simp only [Array.toList_map,List.mem_map] at hx
   obtain ⟨p,hp,rfl⟩:= hx
   exact hρ1 p hp)
  have hOM:=oneMore_alloc w (.cells us sg.1)
  have hpush:=push_new I1 (u:=.slice (some ⟨w.heap.size,0,none⟩) sg.2.length sg.2.length) (o:=.row sg.1 sg.2) hOM (fun b hb=>by cases hb;rfl)
  have hE0:Ext B H1.length env1 w ⟨fun j=>if j=H1.length then some (.slice (some ⟨w.heap.size,0,none⟩) sg.2.length sg.2.length) else env1.val j,env1.prot⟩ (w.alloc (.cells us sg.1)):=
   ⟨hOM.below.mono I1.base,fun j u hj h=>by simp only;rw [if_neg (by omega)];exact h,fun _ _ h=>h,fun b k hp=>hOM.below.block b (I1.inheap b k hp),fun _ _ h => .inl h⟩
  obtain ⟨hI',hE'⟩:= hpush ⟨_,us.toList,rfl,⟨hrow.1, .inr ⟨w.heap.size,_,us,(0,0),0,rfl,I1.base,hOM.new,Nat.le_refl _,by simp only [maxLen];omega,by have:=hrow.1;simp only [Array.length_toList] at this;omega,List.take_of_length_le (by rw [List.drop_zero,hrow.1];exact Nat.le_refl _), .inl rfl⟩⟩,fun i j hi hj=>(hrow.ext hE0 I1.fresh).2 i j hi⟩
  have hrun':(Instr.buildSlice t len (parts.map fun x=>(x.1,a.eval x.2))).run C.P w = .ok (.slice (some ⟨w.heap.size,0,none⟩) sg.2.length sg.2.length) (w.alloc (.cells us sg.1)):= by simpa using hrun
  exact does_value (v:=.slice (some ⟨w.heap.size,0,none⟩) sg.2.length sg.2.length) (by simp [execOp,hop,hrun']) ⟨_, .gs _ _ _ _ (by simp),hI',E1.trans hE'⟩
 case store t ad x =>
  have hx:=hρ x (by simp [Op.operands])
  have had:=hρ ad (by simp [Op.operands])
  split at h
  ·rename_i i off new had' hnew
   rw [had'] at had
   generalize hva:a.eval ad=va at had
   cases had with | ref _ _ b hb =>
   have hn:=cellsOf_sound hnew hx
   cases hobj:obj H i with
   | cells cs =>
    rw [hobj] at h
    obtain ⟨hc,h⟩:= cond_some h
    cases h
    simp only [Bool.and_eq_true,Nat.ble_eq] at hc
    obtain ⟨w',h1,h2,h3⟩:= store_cells hI hobj hb hn (Nat.eq_of_beq_eq_true hc.1.1.1) hc.1.1.2 hc.1.2 hc.2
    exact does_skip (w':=w') (by simp [execOp,hop,hva,h1]) ⟨env, .any _,h2,h3⟩
   | _=>rw [hobj] at h;cases h
  ·rename_i v i idx off new had' hnew
   rw [had'] at had
   generalize hva:a.eval ad=va at had
   cases had with | rg _ _ _ _ b n cap bo hb =>
   have hn:=cellsOf_sound hnew hx
   cases hobj:obj H i with
   | row u xs =>
    rw [hobj] at h
    obtain ⟨hc,h2⟩:= cond_some h
    clear h
    simp only [Bool.and_eq_true,Nat.ble_eq] at hc
    have huv:=Nat.eq_of_beq_eq_true hc.1.1.1.1
    subst huv
    cases hdec:C.S.dec u (over (C.S.cell u (xs.getD idx (C.S.dflt u))) off new) with
    | none=>rw [hdec] at h2;cases h2
    | some y =>
     rw [hdec] at h2
     cases h2
     obtain ⟨w',h1,h2,h3⟩:= store_row hS hI hobj hb hn hdec (hp _ (by simp)) (Nat.eq_of_beq_eq_true hc.1.1.1.2) hc.1.1.2 hc.1.2 hc.2
     exact does_skip (w':=w') (by simp [execOp,hop,hva,h1]) ⟨env, .any _,h2,h3⟩
   | _=>rw [hobj] at h;cases h
  ·cases h
 case makeSlice t l c =>
  split at h
  ·rename_i e kl n kc m he hl hc
   split at h
   ·rename_i z hz
    split at h
    ·rename_i d hd
     obtain ⟨hb,h⟩:= cond_some h
     cases h
     simp only [Bool.and_eq_true] at hb
     obtain ⟨p1,p2,p3,p4⟩:= hp _ (List.mem_singleton.2 rfl)
     obtain ⟨zv,hzr,rfl,inf,hinf,hiz⟩:= zeroT_run hz
     have hl':=hρ l (by simp [Op.operands])
     have hc':=hρ c (by simp [Op.operands])
     rw [hl] at hl';rw [hc] at hc'
     have hl2:=hl'.unv
     have hc2:=hc'.unv
     have hbs:=bytes_run (C:=C) hinf
     have hsz:inf.size=C.S.sz e:=by rw [←hbs.2];exact Nat.eq_of_beq_eq_true hb.1
     have hzl:zv.cells.size=C.S.sz e:=by have:=Nat.eq_of_beq_eq_true hb.2;simpa using this
     rw [hbs.1] at p3
     have hrun:=run_make (P:=C.P) w t e inf zv (fit_typ he) hinf hiz kl kc n m p1 p2 p3 p4
     rw [hsz] at hrun
     have hpos:=hS.pos e
     have hmz:madeCells zv.cells (m.toNat*C.S.sz e)= (rep m.toNat zv.cells.toList).toArray:=by
      rw [←zeros_eq zv.cells m.toNat (C.S.sz e) hzl hpos];rfl
     have hrepl : ∀k,rep k zv.cells.toList=(rep k zv.cells.toList):= fun _=>rfl
     have hOM:=oneMore_alloc w (.cells (madeCells zv.cells (m.toNat*C.S.sz e)) e)
     have hpush:=push_new hI (u:=.slice (some ⟨w.heap.size,0,none⟩) n.toNat m.toNat) (o:=.row e (List.replicate n.toNat d)) hOM (fun b hb=>by cases hb;rfl)
     have hzd : ∀(env:Env) (w:World),G2 C.S env w (C.S.cell e d) zv.cells.toList:=fun env w=>hS.dec e _ d hd env w _ (G2.vmap _)
     have hzlen:zv.cells.toList.length=C.S.sz e:=by simpa using hzl
     have hmul:n.toNat*C.S.sz e≤m.toNat*C.S.sz e:=Nat.mul_le_mul_right _ (by omega)
     have htake:(madeCells zv.cells (m.toNat*C.S.sz e)).toList.take ((List.replicate n.toNat d).length*C.S.sz e)= rep n.toNat zv.cells.toList:=by
      rw [hmz,List.length_replicate]
      apply List.ext_getElem?
      intro k
      rw [List.getElem?_take,rep_get _ (by omega) m.toNat,rep_get _ (by omega) n.toNat,hzlen]
      by_cases hk:k < n.toNat*C.S.sz e
      ·rw [if_pos hk,if_pos hk,if_pos (by omega)]
      ·rw [if_neg hk,if_neg hk]
     obtain ⟨hI',hE'⟩:= hpush ⟨_,rep n.toNat zv.cells.toList,rfl,⟨by rw [rep_len,hzlen,List.length_replicate], .inr ⟨w.heap.size,m.toNat,_,(0,0),0,by rw [List.length_replicate],hI.base,hOM.new,by rw [List.length_replicate];omega,by simp only [maxLen];omega,by rw [size_madeCells];omega,htake, .inl rfl⟩⟩,fun i j hi hj=>by
      rw [List.length_replicate] at hi
      have e1:(List.replicate n.toNat d).getD i (C.S.dflt e)= d:=by simp [List.getD,hi]
      have hm:(i+1)* C.S.sz e≤n.toNat*C.S.sz e:=Nat.mul_le_mul_right _ hi
      rw [Nat.add_mul,Nat.one_mul] at hm
      have e2:(rep n.toNat zv.cells.toList).getD (i*C.S.sz e+j) undef=zv.cells.toList.getD j undef:=by
       rw [List.getD,rep_get _ (by omega),hzlen,if_pos (by omega),Nat.mul_comm i,Nat.mul_add_mod,Nat.mod_eq_of_lt hj]
       rfl
      rw [e1,e2]
      exact (hzd _ _).2 j⟩
     exact does_value (v:=.slice (some ⟨w.heap.size,0,none⟩) n.toNat m.toNat) (by simp [execOp,hop,hl2,hc2,hrun]) ⟨_, .gs _ _ _ _ (by simp),hI',hE'⟩
    ·cases h
   ·cases h
  ·cases h
 case convert s d x =>
  simp only [Option.map_eq_some_iff] at h
  obtain ⟨sg,hsg,h⟩:= h
  cases h
  obtain ⟨v,w',env',q1,q2,q3,q4⟩:= convB_row hS hI hsg (hp _ (List.mem_singleton.2 rfl)) (hρ x (by simp [Op.operands]))
  exact does_value (v:=v) (by simp [execOp,hop,q1]) ⟨env',q2,q3,q4⟩
 case slice t x lo hi mx =>
  split at h
  ·rename_i ps' wv hw
   cases h
   obtain ⟨v,hv,hr⟩:= winA_sound (lo:=lo.map a.eval) (hi:=hi.map a.eval) (mx:=mx.map a.eval) hS hI hw hp (hρ x (by simp [Op.operands]))
    (fun y hy=>by
     obtain ⟨z,hz,rfl⟩:= Option.map_eq_some_iff.1 hy
     exact ⟨a.eval z,by rw [hz];rfl,hρ z (by simp [Op.operands,hz])⟩) (fun h=>by cases hi <;> simp_all) (fun h=>by cases mx <;> simp_all)
   exact does_value (v:=v) (by simp [execOp,hop,hv]) ⟨env,hr,hI,Ext.refl _ _ _ _⟩
  split at h
  ·rename_i r' htl
   cases h
   obtain ⟨v,env',hv,hr,hI',hE'⟩:= tailA_sound (lo:=lo.map a.eval) (hi:=hi.map a.eval) (mx:=mx.map a.eval) hS hI htl hp (hρ x (by simp [Op.operands]))
    (fun y hy=>by
     obtain ⟨z,hz,rfl⟩:= Option.map_eq_some_iff.1 hy
     exact ⟨a.eval z,by rw [hz];rfl,hρ z (by simp [Op.operands,hz])⟩) (fun h=>by cases hi <;> simp_all) (fun h=>by cases mx <;> simp_all)
   exact does_value (v:=v) (by simp [execOp,hop,hv]) ⟨env',hr,hI',hE'⟩
  split at h
  ·rename_i i hx
   simp only [Option.map_eq_some_iff] at h
   obtain ⟨sg,hsg,h⟩:= h
   cases h
   have hx':=hρ x (by simp [Op.operands])
   obtain ⟨env1,v1,I1,E1,l1⟩:= freeze_one hS hI i
   have hnr : ∀t xs,obj (freeze1 H i) i≠ .row t xs:=by
    intro t xs
    rw [freeze1_obj,if_pos rfl]
    cases obj H i <;> simp
   rw [hx] at hx'
   have hd:=deref_sound I1 (hx'.ext E1 hI.fresh) (by intro j hj;simp only [owns,List.mem_singleton] at hj;subst hj;exact hnr)
   have hdd:deref (freeze1 H i) (.gs i)= deref H (.gs i):= by
    simp only [deref]
    rw [freeze1_obj,if_pos rfl]
    cases obj H i <;> rfl
   rw [hdd] at hd
   obtain ⟨v,hv,hr⟩:= sliceA_sound (lo:=lo.map a.eval) (hi:=hi.map a.eval) (mx:=mx.map a.eval) (env:=env1) (w:=w) hS (show sliceA C t (lo.map rho) (hi.map rho) (mx.map rho) (deref H (.gs i))= some (sg.1,sg.2) from hsg) hp hd
    (fun y hy=>by
     obtain ⟨z,hz,rfl⟩:= Option.map_eq_some_iff.1 hy
     exact ⟨a.eval z,by rw [hz];rfl,(hρ z (by simp [Op.operands,hz])).ext E1 hI.fresh⟩) (fun h=>by cases lo <;> simp_all)
    (fun y hy=>by
     obtain ⟨z,hz,rfl⟩:= Option.map_eq_some_iff.1 hy
     exact ⟨a.eval z,by rw [hz];rfl,(hρ z (by simp [Op.operands,hz])).ext E1 hI.fresh⟩) (fun h=>by cases hi <;> simp_all)
    (fun y hy=>by
     obtain ⟨z,hz,rfl⟩:= Option.map_eq_some_iff.1 hy
     exact ⟨a.eval z,by rw [hz];rfl,(hρ z (by simp [Op.operands,hz])).ext E1 hI.fresh⟩) (fun h=>by cases mx <;> simp_all)
   exact does_value (v:=v) (by simp [execOp,hop,hv]) ⟨env1,hr,I1,E1⟩
  ·cases h
 case call c =>
  split at h
  ·rename_i hc
   split at h
   ·rename_i s x t t' hargs hts
    split at h
    ·rename_i e u ys f he hd
     split at h
     ·rename_i hu
      subst hu
      obtain ⟨hb,h2⟩:= cond_some h
      clear h
      simp only [Bool.and_eq_true,Nat.ble_eq] at hb
      obtain ⟨⟨⟨hb1,hb2⟩,hb3⟩,hb4⟩:= hb
      have htt:=Nat.eq_of_beq_eq_true hb1
      subst htt
      have hg:=G2.map_ops (S:=C.S) (env:=env) (w:=w) (rho:=rho) (e:=a.eval) c.args.toList (fun y hy=>hρ y (by simp [Op.operands,Call.operands,hc];simpa using hy))
      rw [hargs] at hg
      obtain ⟨vs,us1,hv1,g1,hg2⟩:= hg.uncons
      obtain ⟨vx,us2,hv2,g2,hg3⟩:= hg2.uncons
      have hu2:us2=[]:= List.eq_nil_of_length_eq_zero hg3.1
      subst hu2;subst hv2
      have hav:c.args.map a.eval = #[vs,vx]:= by apply Array.ext';simpa using hv1
      have hat:c.argTypes = #[t,t]:= by apply Array.ext';simpa using hts
      obtain ⟨inf,hinf,hsz⟩:= info_of_size hS hb2
      have hbs:=bytes_run (C:=C) hinf
      rw [hbs.1] at hb4
      have hexec : ∀v' w',(Builtin.append_ #[t,t] o.type #[vs,vx]).run C.P w = .ok v' w'→(execOp a.eval o).run C.P w = .ok (.value v') w':=by
       intro v' w' hr
       simp [execOp,hop,resolve,hc,hav,hat,invoke,builtin,hr]
      split at h2
      ·rename_i i
       cases hobj:obj H i with
       | row v xs =>
        rw [hobj] at h2
        simp only at h2
        split at h2
        ·rename_i hve
         subst hve
         cases h2
         cases g1 with | gs _ aa nn cc hv =>
         have ho:=hI.objs i
         rw [hobj] at ho
         obtain ⟨u',ws,e1,e2,e3⟩:= ho
         rw [hv] at e1;cases e1
         have hlive:live (obj H i)= true:=by rw [hobj];rfl
         have hfg:=hI.forget i
         have hlt:i < H.length:=hI.fresh i _ hv
         have hrow:RowG C env w v xs ws:=⟨e2.1,fun i j hi=>by
          by_cases hj:j < C.S.sz v
          ·exact e3 i j hi hj
          ·have:(C.S.cell v (xs.getD i (C.S.dflt v))).getD j AV.any = .any:=by
            have:=hS.len v (xs.getD i (C.S.dflt v))
            generalize C.S.cell v (xs.getD i (C.S.dflt v))= cs at this ⊢
            rw [List.getD,List.getElem?_eq_none (by omega)];rfl
           rw [this];exact .any _⟩
         obtain ⟨v',w',env',hrun,hΓ,hI',hE'⟩:= append_core (ty:=o.type) hS hfg (fit_typ he) hinf (zeroFit_run hinf hb3) hsz hb4 e2 hrow (fun b hb=>by
           have hbv:blkV (.slice aa nn cc)= some b:=by cases aa <;> simp [Value.ownBlock,blkV] at hb ⊢;exact hb
           refine ⟨hI.free i _ b hlive hv hbv,fun j u1 h1 h2 h3=>?_⟩
           rw [obj_set H i j _ hlt] at h1
           by_cases hij:i=j
           ·rw [if_pos hij] at h1;cases h1
           ·rw [if_neg hij] at h1
            exact hij (hI.apart i j _ u1 b hlive h1 hv h2 hbv h3)) (.inr ⟨H,trivial,hd,hI⟩) g2 (by have:=hp _ (List.mem_singleton.2 rfl);rw [hbs.1] at this;exact this)
         have hlen:(setN H i AObj.gone).length=H.length:=by rw [setN_eq,List.length_set]
         rw [hlen] at hΓ hE'
         exact does_value (hexec _ _ hrun) ⟨env',hΓ,hI',hE'⟩
        ·cases h2
       | _=>rw [hobj] at h2;cases h2
      ·cases h2
       cases g1.unv
       obtain ⟨v',w',env',hrun,hΓ,hI',hE'⟩:= append_core (ty:=o.type) (xs:=[]) (us:=[]) hS hI (fit_typ he) hinf (zeroFit_run hinf hb3) hsz hb4 (.of (World.ownsRow_nil _ _ _ _)) ⟨by simp,fun i j hi=>by simp at hi⟩ (fun b hb=>by cases hb) (.inl hd) g2 (by have:=hp _ (List.mem_singleton.2 rfl);rw [hbs.1] at this;simpa using this)
       exact does_value (hexec _ _ hrun) ⟨env',hΓ,by simpa using hI',hE'⟩
      ·cases h2
     ·cases h
    ·cases h
   ·cases h
  ·rename_i hc
   simp only [Option.map_eq_some_iff] at h
   obtain ⟨H2,hH,h⟩:= h
   cases h
   obtain ⟨w',q1,q2,q3⟩:= clear_sound (ev:=a.eval) (ty:=o.type) hS hI hH (fun x hx=>hρ x (by simp only [Op.operands,Call.operands];simp;exact .inr (by simpa using hx)))
   exact does_value (v:=.tuple #[]) (by simp [execOp,hop,resolve,hc,invoke,builtin,q1]) ⟨env, .any _,q2,q3⟩
  ·rename_i hc
   split at h
   ·rename_i i x t0 t1 hargs hts
    cases hobj:obj H i with
    | row u xs =>
     cases hd:deref H x with
     | sl e ys f =>
      rw [hobj,hd] at h
      simp only at h
      split at h
      ·rename_i heu
       subst heu
       obtain ⟨hb,h2⟩:= cond_some h
       clear h
       cases h2
       have hg:=G2.map_ops (S:=C.S) (env:=env) (w:=w) (rho:=rho) (e:=a.eval) c.args.toList (fun y hy=>hρ y (by simp [Op.operands,Call.operands,hc];simpa using hy))
       rw [hargs] at hg
       obtain ⟨vd,us1,hv1,g1,hg2⟩:= hg.uncons
       obtain ⟨vx,us2,hv2,g2,hg3⟩:= hg2.uncons
       have hu2:us2=[]:= List.eq_nil_of_length_eq_zero hg3.1
       subst hu2;subst hv2
       have hav:c.args.map a.eval = #[vd,vx]:= by apply Array.ext';simpa using hv1
       simp only [Bool.and_eq_true] at hb
       obtain ⟨el,hel⟩:= isSl_run hb.2
       obtain ⟨d,el',hd2,hde,hsz⟩:= fitE_run hb.1
       rw [hel] at hd2;cases hd2
       rcases hde with hde | ⟨_,hde⟩ <;> cases hde
       obtain ⟨inf,hinf,hisz⟩:= size_run hS hsz
       have hat:c.argTypes = #[t0,t1]:= by apply Array.ext';simpa using hts
       obtain ⟨ax,capx,news,rfl,hr,ha,hcell⟩:= read_sl hS hI hd g2
       cases g1 with | gs _ ad nd cd hv =>
       have ho:=hI.objs i
       rw [hobj] at ho
       obtain ⟨u',ws,e1,e2,e3⟩:= ho
       rw [hv] at e1;cases e1
       have hrow:RowG C env w e xs ws:=⟨e2.1,fun i j hi=>by
        by_cases hj:j < C.S.sz e
        ·exact e3 i j hi hj
        ·rw [cell_any hS e _ hj];exact .any _⟩
       have hlive:live (obj H i)= true:=by rw [hobj];rfl
       have hnews:(news.take (min ys.length xs.length*C.S.sz e)).length=min ys.length xs.length*C.S.sz e:=by
        rw [List.length_take,hr.1,Nat.min_eq_left (Nat.mul_le_mul_right _ (Nat.min_le_left _ _))]
       have hnd:nd=xs.length:=by
        rcases e2.2 with ⟨e4,e5⟩| ⟨g,cap',cur,fz,bo,e4,_⟩
        ·cases e4;exact e5.symm
        ·cases e4;rfl
       subst hnd
       have hfirst:(Builtin.firstCells (C.S.sz e) (min ys.length xs.length) (.slice ax ys.length capx)).run C.P w = .ok (news.take (min ys.length xs.length*C.S.sz e)).toArray w:=by
        cases ax with
        | none =>
         have:=ha rfl
         subst this
         have:news=[]:= List.eq_nil_of_length_eq_zero (by simpa using hr.1)
         subst this
         simp [Builtin.firstCells]
        | some ad' =>
         exact run_firstCells_some (P:=C.P) w _ _ ad' _ capx _ hnews (fun j v hj=>hcell ad' rfl j v (by rw [List.getElem?_take] at hj;split at hj;exact hj;cases hj))
       have hmin:min ys.length xs.length=min ys.length xs.length:=rfl
       have hnewrow:(ys.take xs.length ++ xs.drop ys.length).length=xs.length:=by simp;omega
       have hR:RowG C env w e (ys.take xs.length ++ xs.drop ys.length) (news.take (min ys.length xs.length*C.S.sz e)++ ws.drop (min ys.length xs.length*C.S.sz e)):= by
        rcases Nat.le_total ys.length xs.length with hle | hle
        ·rw [Nat.min_eq_left hle,List.take_of_length_le (show ys.length≤xs.length from hle),←hr.1,List.take_length,hr.1]
         exact hr.append hS (hrow.drop ys.length)
        ·rw [Nat.min_eq_right hle,List.drop_of_length_le (show xs.length≤ys.length from hle),←e2.1,List.drop_length,e2.1]
         simpa using hr.take hS xs.length
       rcases e2.2 with ⟨e4,e5⟩| ⟨g,cap',cur,fz,bo,e4,e5,e6,e7,e8,e9,e10,e11⟩
       ·have hx0:xs=[]:= List.eq_nil_of_length_eq_zero e5
        subst hx0
        cases e4
        have hset:setN H i (.row e (ys.take 0 ++ List.drop ys.length ([]: List (C.S.El e))))= H:=by
         have hi:i < H.length:=hI.fresh i _ hv
         rw [setN_eq]
         apply List.ext_getElem?
         intro k
         rw [List.getElem?_set]
         by_cases hk:i=k
         ·subst hk
          rw [if_pos rfl,if_pos hi]
          rw [obj_nth,List.getElem?_eq_getElem hi] at hobj
          rw [List.getElem?_eq_getElem hi]
          simpa using hobj.symm
         ·rw [if_neg hk]
        refine does_value (v:=.int .i64 ((min ys.length 0:Nat): Int)) ?_ ⟨env, .v _,by simp only [List.length_nil];rw [hset];exact hI,Ext.refl _ _ _ _⟩
        have hfirst0:(Builtin.firstCells (C.S.sz e) 0 (.slice ax ys.length capx)).run C.P w = .ok #[] w:=by simpa using hfirst
        simp [execOp,hop,resolve,hc,hav,hat,invoke,builtin,Builtin.copy_,run_underlying hel,Builtin.lenOf,run_sizeOf hinf,hisz,hfirst0,goInt]
       ·cases e4
        have hle:bo+min ys.length xs.length*C.S.sz e≤cur.size:=by
         have h1:min ys.length xs.length*C.S.sz e≤xs.length*C.S.sz e:=Nat.mul_le_mul_right _ (Nat.min_le_right _ _)
         have h2:xs.length*C.S.sz e≤cd*C.S.sz e:=Nat.mul_le_mul_right _ e7
         omega
        have hrs:=run_storeCells_fz C.P g bo e fz (news.take (min ys.length xs.length*C.S.sz e)) 0 cur w e6 e11 (by rw [hnews];omega) (fun v hv=>hr.ones hS v (List.mem_of_mem_take hv))
        simp only [Nat.add_zero] at hrs
        rw [hnews] at hrs
        obtain ⟨hI',hE'⟩:= set_obj (o:=.row e (ys.take xs.length ++ xs.drop ys.length)) hI hv (b:=g) rfl hlive (below_setRow (Below.refl B w) e5 (cur.toList.take bo ++ news.take (min ys.length xs.length*C.S.sz e)++ cur.toList.drop (bo+min ys.length xs.length*C.S.sz e)).toArray) (fun k hk=>setRow_other w g k _ hk) (fun hE=>by
         refine ⟨_,news.take (min ys.length xs.length*C.S.sz e)++ ws.drop (min ys.length xs.length*C.S.sz e),rfl,⟨(hR.ext hE hI.fresh).1, .inr ⟨g,cd,_,fz,bo,by rw [hnewrow],e5,setRow_heap w g cur _ e fz e6,by rw [hnewrow];exact e7,e8, ?_, ?_, ?_⟩⟩,fun i j hi _=>(hR.ext hE hI.fresh).2 i j hi⟩
         ·simp only [List.size_toArray,List.length_append,hnews,List.length_drop,List.length_take,Array.length_toList];omega
         ·rw [hnewrow]
          show List.take _ (List.drop bo (cur.toList.take (bo+0)++ news.take (min ys.length xs.length*C.S.sz e)++ cur.toList.drop (bo+min ys.length xs.length*C.S.sz e)))= _
          rw [show bo+min ys.length xs.length*C.S.sz e=bo+0+(news.take (min ys.length xs.length*C.S.sz e)).length by rw [hnews];rfl,splice_off _ _ _ _ (by simp;omega),List.take_zero,List.nil_append,Nat.zero_add,hnews]
          have h1:min ys.length xs.length*C.S.sz e≤xs.length*C.S.sz e:=Nat.mul_le_mul_right _ (Nat.min_le_right _ _)
          rw [List.take_append,List.take_of_length_le (by rw [hnews];exact h1),hnews]
          subst e10
          rw [List.drop_take]
         ·refine e11.imp id fun h=>?_
          simp only [List.size_toArray,List.length_append,hnews,List.length_drop,List.length_take,Array.length_toList];omega) rfl
        refine does_value (v:=.int .i64 ((min ys.length xs.length:Nat): Int)) ?_ ⟨env, .v _,hI',hE'⟩
        simp [execOp,hop,resolve,hc,hav,hat,invoke,builtin,Builtin.copy_,run_underlying hel,Builtin.lenOf,run_sizeOf hinf,hisz,hfirst,hrs,goInt]
      ·cases h
     | _=>rw [hobj,hd] at h;cases h
    | _=>rw [hobj] at h;cases h
   ·cases h
  ·rename_i x0 hc
   split at h
   ·rename_i f args ht
    split at h
    ·rename_i ct hT
     split at h
     ·rename_i ps' r' news hct
      obtain ⟨hb,h⟩:= cond_some h
      cases h
      cases hk:keepOwn C r' news with
      | false =>
       exact (call_ct hC hI hop (fun y hy=>hρ y (by simpa [Op.operands] using hy)) ht hT hct hp hb).mono fun v w' ⟨env',h1,h2,h3,_⟩=> ⟨env',h1,h2,h3⟩
      | true =>
       have hk':=hk
       simp only [keepOwn,Bool.and_eq_true] at hk'
       exact (call_own hC hI hop (fun y hy=>hρ y (by simpa [Op.operands] using hy)) ht hT hct hp hb hk'.2.1 hk'.2.2).mono fun v w' ⟨env',h1,h2,h3,_⟩=> ⟨env',h1,h2,h3⟩
     ·cases h
    ·cases h
   ·cases h
  ·cases h
end
end Go.Aw
