/-
  Operations that make or write own things (own work).
-/
import Derived.Test.YtlnbhdcaebmffaaGreatXAwY
import Derived.Laws.CopyOwn
set_option linter.unusedSimpArgs false
set_option linter.unusedVariables false
namespace Go.Aw
open Go.RowKit
section
variable {C:Cx} {env:Env} {w:World} {B:Nat} {H:List (AObj C.S.El)}
def ImpR (C:Cx) (B:Nat) (env:Env) (w:World) (N:Nat) (x:AV C.S.El) (H':List (AObj C.S.El)) (v:Value) (w':World): Prop :=
 ∃env',Γ C.S env' w' x v∧Inv C.S B env' w' H'∧Ext B N env w env' w'
theorem one_cell {S:Sig} {env:Env} {w:World} {x:AV S.El} {v:Value} (h:one x=true) (hx:Γ S env w x v): v.oneCell'=true:=by
 cases hx <;> simp only [one,Bool.false_eq_true] at h <;> try rfl
 revert h
 cases v <;> simp [one,Value.oneCell']
theorem ones_cell {S:Sig} {env:Env} {w:World}: ∀(cs:List (AV S.El)) (vs:List Value),cs.all one=true→G2 S env w cs vs→∀v∈vs,v.oneCell'=true
 | [],vs,_,h=>by
  have:vs=[]:= List.eq_nil_of_length_eq_zero h.1
  subst this;simp
 | c::cs,vs,hc,h=>by
  obtain ⟨u,us,rfl,h1,h2⟩:= h.uncons
  simp only [List.all_cons,Bool.and_eq_true] at hc
  intro v hv
  rcases List.mem_cons.1 hv with rfl | hv
  ·exact one_cell hc.1 h1
  ·exact ones_cell cs us hc.2 h2 v hv
theorem push_obj (hI:Inv C.S B env w H) {w':World} {u:Value} {o:AObj C.S.El} (hB:Below B w w') (hkeep : ∀b k,env.prot b k→w'.heap[b]? = w.heap[b]?)
  (hblk : ∀i v b,env.val i=some v→blkV v=some b→live (obj H i)= true→w'.heap[b]? = w.heap[b]?)
  (hnew : ∀b,blkV u=some b→live o=true→(∀k,¬env.prot b k)∧∀i v,live (obj H i)= true→env.val i=some v→blkV v≠some b)
  (hok:ObjOk C.S ⟨fun i=>if i=H.length then some u else env.val i,env.prot⟩ w' B (some u) o):
  Inv C.S B ⟨fun i=>if i=H.length then some u else env.val i,env.prot⟩ w' (H ++ [o])∧Ext B H.length env w ⟨fun i=>if i=H.length then some u else env.val i,env.prot⟩ w':=by
 have hN : ∀i v,env.val i=some v→i < H.length:=hI.fresh
 have hE:Ext B H.length env w ⟨fun i=>if i=H.length then some u else env.val i,env.prot⟩ w' :=
  ⟨hB,fun i v hi h=>by simp only;rw [if_neg (by omega)];exact h,fun _ _ h=>h,hkeep,fun _ _ h => .inl h⟩
 have ho : ∀i,obj (H ++ [o]) i=if i=H.length then o else obj H i:=by
  intro i
  simp only [obj_nth,List.getElem?_append]
  by_cases h1:i < H.length
  ·rw [if_pos h1,if_neg (by omega)]
  ·rw [if_neg h1]
   by_cases h2:i=H.length
   ·subst h2;simp
   ·rw [if_neg h2,List.getElem?_eq_none (by simp;omega),List.getElem?_eq_none (by omega)]
 refine ⟨⟨fun i=>?_,fun i v b hl h1 h2 k hp=>?_,fun i j v v' b hl hl' h1 h2 h3 h4=>?_,fun b k hp=>Nat.lt_of_lt_of_le (hI.inheap b k hp) hB.size,fun i v h=>?_,fun g=>(hI.glob g).ext hE hN,Nat.le_trans hI.base hB.size⟩,hE⟩
 ·rw [ho]
  by_cases h:i=H.length
  ·simp only [h,if_true];exact hok
  ·simp only [if_neg h]
   exact (hI.objs i).ext hE hN (fun v b h1 h2 h3=>hblk i v b h1 h2 h3)
 ·rw [ho] at hl
  by_cases h:i=H.length
  ·simp only [if_pos h] at hl h1
   cases h1
   exact (hnew b h2 hl).1 k hp
  ·simp only [if_neg h] at hl h1
   exact hI.free i v b hl h1 h2 k hp
 ·rw [ho] at hl hl'
  by_cases h:i=H.length <;> by_cases h':j=H.length
  ·omega
  ·simp only [if_pos h] at hl h1
   simp only [if_neg h'] at hl' h2
   cases h1
   exact absurd h4 ((hnew b h3 hl).2 j v' hl' h2)
  ·simp only [if_neg h] at hl h1
   simp only [if_pos h'] at hl' h2
   cases h2
   exact absurd h3 ((hnew b h4 hl').2 i v hl h1)
  ·simp only [if_neg h] at hl h1
   simp only [if_neg h'] at hl' h2
   exact hI.apart i j v v' b hl hl' h1 h2 h3 h4
 ·simp only at h
  by_cases h':i=H.length
  ·simp [h']
  ·rw [if_neg h'] at h;have:=hN i v h;simp;omega
theorem put_obj (hI:Inv C.S B env w H) {w':World} {u:Value} {o:AObj C.S.El} {k0:Nat} (hk0:k0 < H.length) (hv0:env.val k0=none) (hB:Below B w w') (hkeep : ∀b k,env.prot b k→w'.heap[b]? = w.heap[b]?)
  (hblk : ∀i v b,env.val i=some v→blkV v=some b→live (obj H i)= true→w'.heap[b]? = w.heap[b]?)
  (hnew : ∀b,blkV u=some b→live o=true→(∀k,¬env.prot b k)∧∀i v,live (obj H i)= true→env.val i=some v→blkV v≠some b)
  (hok:ObjOk C.S ⟨fun i=>if i=k0 then some u else env.val i,env.prot⟩ w' B (some u) o):
  Inv C.S B ⟨fun i=>if i=k0 then some u else env.val i,env.prot⟩ w' (H.set k0 o)∧Ext B H.length env w ⟨fun i=>if i=k0 then some u else env.val i,env.prot⟩ w':=by
 have hN : ∀i v,env.val i=some v→i < H.length:=hI.fresh
 have hE:Ext B H.length env w ⟨fun i=>if i=k0 then some u else env.val i,env.prot⟩ w' :=
  ⟨hB,fun i v hi h=>by simp only;rw [if_neg (fun e=>by subst e;rw [hv0] at h;cases h)];exact h,fun _ _ h=>h,hkeep,fun _ _ h => .inl h⟩
 have ho : ∀i,obj (H.set k0 o) i=if i=k0 then o else obj H i:=by
  intro i
  rw [←setN_eq,obj_set H k0 i _ hk0]
  by_cases h:k0=i
  ·rw [if_pos h,if_pos h.symm]
  ·rw [if_neg h,if_neg (Ne.symm h)]
 refine ⟨⟨fun i=>?_,fun i v b hl h1 h2 k hp=>?_,fun i j v v' b hl hl' h1 h2 h3 h4=>?_,fun b k hp=>Nat.lt_of_lt_of_le (hI.inheap b k hp) hB.size,fun i v h=>?_,fun g=>(hI.glob g).ext hE hN,Nat.le_trans hI.base hB.size⟩,hE⟩
 ·rw [ho]
  by_cases h:i=k0
  ·simp only [h,if_true];exact hok
  ·simp only [if_neg h]
   exact (hI.objs i).ext hE hN (fun v b h1 h2 h3=>hblk i v b h1 h2 h3)
 ·rw [ho] at hl
  by_cases h:i=k0
  ·simp only [if_pos h] at hl h1
   cases h1
   exact (hnew b h2 hl).1 k hp
  ·simp only [if_neg h] at hl h1
   exact hI.free i v b hl h1 h2 k hp
 ·rw [ho] at hl hl'
  by_cases h:i=k0 <;> by_cases h':j=k0
  ·omega
  ·simp only [if_pos h] at hl h1
   simp only [if_neg h'] at hl' h2
   cases h1
   exact absurd h4 ((hnew b h3 hl).2 j v' hl' h2)
  ·simp only [if_neg h] at hl h1
   simp only [if_pos h'] at hl' h2
   cases h2
   exact absurd h3 ((hnew b h4 hl').2 i v hl h1)
  ·simp only [if_neg h] at hl h1
   simp only [if_neg h'] at hl' h2
   exact hI.apart i j v v' b hl hl' h1 h2 h3 h4
 ·simp only at h
  rw [List.length_set]
  by_cases h':i=k0
  ·omega
  ·rw [if_neg h'] at h;exact hN i v h
theorem push_new (hI:Inv C.S B env w H) {w':World} {ob:Obj} {u:Value} {o:AObj C.S.El} (h1:OneMore w w' ob) (hu : ∀b,blkV u=some b→b=w.heap.size)
  (hok:ObjOk C.S ⟨fun i=>if i=H.length then some u else env.val i,env.prot⟩ w' B (some u) o):
  Inv C.S B ⟨fun i=>if i=H.length then some u else env.val i,env.prot⟩ w' (H ++ [o])∧Ext B H.length env w ⟨fun i=>if i=H.length then some u else env.val i,env.prot⟩ w' :=
 push_obj hI (h1.below.mono hI.base) (fun b k hp=>h1.below.block b (hI.inheap b k hp)) (fun i v b h2 h3 h4=>h1.below.block b (live_block hI h2 h3 h4))
  (fun b hb _=>by
   have:=hu b hb
   subst this
   exact ⟨fun k hp=>absurd (hI.inheap _ k hp) (by omega),fun i v h2 h3 h4=>absurd (live_block hI h3 h4 h2) (by omega)⟩) hok
theorem Inv.forget (hI:Inv C.S B env w H) (i:Nat): Inv C.S B env w (setN H i .gone):= by
 have ho : ∀j,obj (setN H i .gone) j=if i=j then .gone else obj H j:=by
  intro j
  by_cases hi:i < H.length
  ·exact obj_set H i j .gone hi
  ·have:setN H i AObj.gone=H:=by rw [setN_eq,List.set_eq_of_length_le (by omega)]
   rw [this]
   by_cases h:i=j
   ·subst h;rw [if_pos rfl,obj_nth,List.getElem?_eq_none (by omega)];rfl
   ·rw [if_neg h]
 have hl : ∀j,live (obj (setN H i .gone) j)= true→live (obj H j)= true∧i≠j:=by
  intro j h
  rw [ho] at h
  by_cases h':i=j
  ·rw [if_pos h'] at h;cases h
  ·rw [if_neg h'] at h;exact ⟨h,h'⟩
 refine ⟨fun j=>?_,fun j v b h1 h2 h3 k hp=>hI.free j v b (hl j h1).1 h2 h3 k hp,fun j k u v b h1 h2 h3 h4 h5 h6=>hI.apart j k u v b (hl j h1).1 (hl k h2).1 h3 h4 h5 h6,hI.inheap,fun j v h=>by rw [setN_eq,List.length_set];exact hI.fresh j v h,hI.glob,hI.base⟩
 rw [ho]
 by_cases h:i=j
 ·rw [if_pos h];trivial
 ·rw [if_neg h];exact hI.objs j
theorem set_obj (hI:Inv C.S B env w H) {i:Nat} {u:Value} {b:Nat} {w':World} {o:AObj C.S.El} (hv:env.val i=some u) (hb:blkV u=some b) (hl:live (obj H i)= true) (hB:Below B w w')
  (hoth : ∀k,k≠b→w'.heap[k]? = w.heap[k]?) (hok:Ext B H.length env w env w'→ObjOk C.S env w' B (some u) o) (hlo:live o=true): Inv C.S B env w' (setN H i o)∧Ext B H.length env w env w':=by
 have hN : ∀i v,env.val i=some v→i < H.length:=hI.fresh
 have hE:Ext B H.length env w env w':=⟨hB,fun _ _ _ h=>h,fun _ _ h=>h,fun c k hp=>by
  have:c≠b:=fun h=>by subst h;exact hI.free i u c hl hv hb k hp
  exact hoth c this,fun _ _ h => .inl h⟩
 have ho:=fun j=>obj_set H i j o (hN i u hv)
 refine ⟨⟨fun j=>?_,fun j v c h1 h2 h3 k hp=>?_,fun j k v v' c h1 h2 h3 h4 h5 h6=>?_,fun c k hp=>Nat.lt_of_lt_of_le (hI.inheap c k hp) hB.size,fun j v h=>by rw [setN_eq,List.length_set];exact hN j v h,fun g=>(hI.glob g).ext hE hN,Nat.le_trans hI.base hB.size⟩,hE⟩
 ·rw [ho]
  by_cases h:i=j
  ·subst h;rw [if_pos rfl,hv];exact hok hE
  ·rw [if_neg h]
   refine (hI.objs j).ext hE hN (fun v c h1 h2 h3=>hoth c fun hc=>?_)
   subst hc
   exact h (hI.apart i j u v c hl h3 hv h1 hb h2)
 ·rw [ho] at h1
  by_cases h:i=j
  ·subst h;exact hI.free i v c hl h2 h3 k hp
  ·rw [if_neg h] at h1;exact hI.free j v c h1 h2 h3 k hp
 ·have e : ∀j,live (obj (setN H i o) j)= true→live (obj H j)= true:=by
   intro j hj
   rw [ho] at hj
   by_cases h:i=j
   ·subst h;exact hl
   ·rw [if_neg h] at hj;exact hj
  exact hI.apart j k v v' c (e j h1) (e k h2) h3 h4 h5 h6
theorem overL {cs new:List (AV C.S.El)} {us vs:List Value} {off:Nat} (hg:G2 C.S env w cs us) (hn:G2 C.S env w new vs) (hle:off+new.length≤cs.length):
  G2 C.S env w (over cs off new) (us.take off ++ vs ++ us.drop (off+vs.length)):= by
 induction new generalizing cs us off vs with
 | nil =>
  have:vs=[]:= List.eq_nil_of_length_eq_zero hn.1
  subst this
  simpa [over,List.take_append_drop] using hg
 | cons x new ih =>
  obtain ⟨v,vs',rfl,h1,h2⟩:= hn.uncons
  simp only [List.length_cons] at hle
  have hl:=hg.1
  have hset:G2 C.S env w (cs.set off x) (us.set off v):= by
   refine ⟨by simp [hl],fun j=>?_⟩
   have hj:=hg.2 j
   simp only [List.getD,List.getElem?_set] at hj ⊢
   by_cases h:off=j
   ·subst h
    rw [if_pos rfl,if_pos rfl,if_pos (by omega),if_pos (by omega)];simpa using h1
   ·rw [if_neg h,if_neg h];exact hj
  have:=ih hset h2 (off:=off+1) (by simp;omega)
  rw [over,setN_eq]
  have hlt:off < us.length:=by omega
  have hA:(us.take off).length=off:=by simp;omega
  have e:(us.set off v).take (off+1)++ vs' ++ (us.set off v).drop (off+1+vs'.length)= us.take off ++ (v::vs')++ us.drop (off+(v::vs').length):= by
   have e1:(us.set off v).take (off+1)= us.take off ++ [v]:= by
    rw [List.take_set,List.take_succ_eq_append_getElem hlt,List.set_append_right _ _ (by omega),hA]
    simp
   have e2:(us.set off v).drop (off+1+vs'.length)= us.drop (off+(v::vs').length):= by
    rw [List.drop_set_of_lt (by omega)]
    congr 1
    simp;omega
   rw [e1,e2]
   simp
  rw [←e]
  exact this
theorem bytes_run {t:TypeId} {i:TypeInfo} (h:C.P.info? t=some i): bytesT C.P t=i.bytes∧sizeT C.P t=i.size:=by
 simp [bytesT,sizeT,h]
theorem info_of_size (hS:SigOk C.S) {e u:TypeId} (h:Nat.beq (sizeT C.P e) (C.S.sz u)= true): ∃i,C.P.info? e=some i∧i.size=C.S.sz u:=size_run hS (Nat.eq_of_beq_eq_true h)
theorem store_cells (hI:Inv C.S B env w H) {i off b:Nat} {cs new:List (AV C.S.El)} {t:TypeId} {vx:Value} (hobj:obj H i = .cells cs) (hb:env.val i=some (.pointer (some ⟨b,0,none⟩))) (hn:G2 C.S env w new vx.cells.toList)
  (h1:new.length=sizeT C.P t) (h2:off+new.length≤cs.length) (h3:new.all one=true) (hs:(C.P.info? t).isSome=true):
  ∃w',(Instr.storeAt t (.pointer (some ⟨b,off,none⟩)) vx).run C.P w = .ok () w'∧Inv C.S B env w' (setN H i (.cells (over cs off new)))∧Ext B H.length env w env w':=by
 have ho:=hI.objs i
 rw [hobj] at ho
 obtain ⟨b',vs,T,e1,e2,e3,e4⟩:= ho
 rw [hb] at e1;cases e1
 have hvl:vs.size=cs.length:=by simpa using e4.1
 have hnl:vx.cells.size=new.length:=by simpa using hn.1
 cases hi:C.P.info? t with
 | none=>rw [hi] at hs;cases hs
 | some inf =>
 have hsz:vx.cells.size=inf.size:=by rw [hnl,h1];simp [sizeT,hi]
 have hrun:=run_storeCells_at C.P b off T vx.cells.toList 0 vs w e3 (by simp;omega) (ones_cell new _ h3 hn)
 simp only [Nat.add_zero] at hrun
 refine ⟨w.setRow b (vs.toList.take off ++ vx.cells.toList ++ vs.toList.drop (off+vx.cells.toList.length)).toArray, ?_,set_obj hI hb rfl (by rw [hobj];rfl) (below_setRow (Below.refl B w) e2 _) (fun k hk=>setRow_other w b k _ hk) (fun hE=>?_) rfl⟩
 ·simp [Instr.storeAt,Instr.sureAddr,storeVar,run_sizeOf hi,hsz,hrun]
 ·refine ⟨b,_,T,rfl,e2,setRow_heap w b vs _ T (0,0) e3, ?_⟩
  have:=overL (e4.ext hE hI.fresh) (hn.ext hE hI.fresh) h2
  simpa using this
theorem splice_take {α:Type} (cur v:List α) (N p:Nat) (h:p+v.length≤N) (hN:N≤cur.length):
  (cur.take p ++ v ++ cur.drop (p+v.length)).take N=(cur.take N).take p ++ v ++ (cur.take N).drop (p+v.length):= by
 have h1:(cur.take p ++ v).length=p+v.length:=by simp;omega
 rw [List.take_append,List.take_of_length_le (by omega),h1,List.take_take,Nat.min_eq_left (by omega),List.drop_take]
theorem splice_getD {α:Type} (us v:List α) (p q:Nat) (d:α) (h:p+v.length≤us.length):
  (us.take p ++ v ++ us.drop (p+v.length)).getD q d=if p≤q∧q < p+v.length then v.getD (q - p) d else us.getD q d:=by
 have h1:(us.take p).length=p:=by simp;omega
 simp only [List.getD,List.append_assoc,List.getElem?_append,h1]
 by_cases a:q < p
 ·rw [if_pos a,if_neg (by omega),List.getElem?_take,if_pos a]
 ·rw [if_neg a]
  by_cases b:q - p < v.length
  ·rw [if_pos b,if_pos (by omega)]
  ·rw [if_neg b,if_neg (by omega),List.getElem?_drop]
   congr 2;omega
theorem run_storeCells_fz (P:Program) (g o:Nat) (t:TypeId) (fz:Nat×Nat): ∀(vs:List Value) (i:Nat) (cur:Array Value) (w:World),w.heap[g]? = some (.cells cur t fz)→(fz.2=0∨cur.size≤fz.1)→o+i+vs.length≤cur.size→(∀v∈vs,v.oneCell'=true)→
  (storeCells ⟨g,o,none⟩ vs i).run P w = .ok () (w.setRow g (cur.toList.take (o+i)++ vs ++ cur.toList.drop (o+i+vs.length)).toArray)
 | [],i,cur,w,hg,_,_,_=>by
  simp only [storeCells,List.append_nil,List.length_nil,Nat.add_zero,List.take_append_drop,Array.toArray_toList]
  rw [setRow_self w g cur t fz hg]
  rfl
 | v::rest,i,cur,w,hg,hfz,hl,h1=>by
  have hi:o+i < cur.size:=by simp at hl;omega
  have hadd:(⟨g,o,none⟩: Addr).add i=⟨g,o+i,none⟩:= by unfold Addr.add;split <;> simp_all
  have hcell:w.cell? ⟨g,o+i,none⟩= some cur[o+i]:= by simp [World.cell?,hg,hi]
  have hfro:w.frozen? ⟨g,o+i,none⟩= false:=by
   obtain ⟨lo,up⟩:= fz
   simp only [World.frozen?,hg,Bool.and_eq_false_iff,decide_eq_false_iff_not]
   simp only at hfz
   rcases hfz with h | h
   ·right;omega
   ·left;omega
  have hst:(store ((⟨g,o,none⟩: Addr).add i) v).run P w = .ok () (w.setRow g (cur.setIfInBounds (o+i) v)):= by
   rw [hadd,run_store P w _ v _ (h1 v (by simp)),hcell]
   simp [hfro,setCell_eq_setRow w g (o+i) cur t fz v hg]
  have ih:=run_storeCells_fz P g o t fz rest (i+1) (cur.setIfInBounds (o+i) v) (w.setRow g (cur.setIfInBounds (o+i) v)) (setRow_heap w g cur _ t _ hg) (by simpa using hfz) (by simp at hl ⊢;omega) (fun x hx=>h1 x (by simp [hx]))
  simp only [storeCells,Sem.run_bind,hst,Result.andThen_ok,ih,setRow_setRow]
  congr 3
  have e:=list_seg_step cur.toList (o+i) v rest (by simp at hl ⊢;omega)
  simpa [Nat.add_assoc] using e
theorem splice_off {α:Type} (l v:List α) (o p:Nat) (h:o+p≤l.length): (l.take (o+p)++ v ++ l.drop (o+p+v.length)).drop o=(l.drop o).take p ++ v ++ (l.drop o).drop (p+v.length):= by
 rw [List.append_assoc,List.drop_append_of_le_length (by rw [List.length_take];omega),List.drop_take,List.drop_drop,show o+p - o=p by omega,Nat.add_assoc,List.append_assoc]
theorem store_row (hS:SigOk C.S) (hI:Inv C.S B env w H) {i idx off b n cap bo:Nat} {u:TypeId} {xs:List (C.S.El u)} {new:List (AV C.S.El)} {y:C.S.El u} {t:TypeId} {vx:Value} (hobj:obj H i = .row u xs)
  (hb:env.val i=some (.slice (some ⟨b,bo,none⟩) n cap)) (hn:G2 C.S env w new vx.cells.toList) (hy:C.S.dec u (over (C.S.cell u (xs.getD idx (C.S.dflt u))) off new)= some y) (hidx:idx < xs.length)
  (h1:new.length=sizeT C.P t) (h2:off+new.length≤C.S.sz u) (h3:new.all one=true) (hs:(C.P.info? t).isSome=true):
  ∃w',(Instr.storeAt t (.pointer (some ⟨b,bo+(idx*C.S.sz u+off),none⟩)) vx).run C.P w = .ok () w'∧Inv C.S B env w' (setN H i (.row u (xs.set idx y)))∧Ext B H.length env w env w':=by
 have ho:=hI.objs i
 rw [hobj] at ho
 obtain ⟨u',ws,e1,e2,e3⟩:= ho
 rw [hb] at e1;cases e1
 rcases e2.2 with ⟨e4,_⟩| ⟨g,cap',cur,fz,bo',e4,e5,e6,e7,e8,e9,e10,e11⟩
 ·cases e4
 cases e4
 have hnl:vx.cells.size=new.length:=by simpa using hn.1
 cases hi:C.P.info? t with
 | none=>rw [hi] at hs;cases hs
 | some inf =>
 have hsz:vx.cells.size=inf.size:=by rw [hnl,h1];simp [sizeT,hi]
 have hm:(idx+1)* C.S.sz u≤xs.length*C.S.sz u:=Nat.mul_le_mul_right _ hidx
 have hm2:xs.length*C.S.sz u≤cap*C.S.sz u:=Nat.mul_le_mul_right _ e7
 rw [Nat.add_mul,Nat.one_mul] at hm
 have hrun:=run_storeCells_fz C.P b (bo+(idx*C.S.sz u+off)) u fz vx.cells.toList 0 cur w e6 e11 (by simp;omega) (ones_cell new _ h3 hn)
 simp only [Nat.add_zero] at hrun
 have hwl:=e2.1
 have hvl:vx.cells.toList.length=new.length:=hn.1
 refine ⟨w.setRow b (cur.toList.take (bo+(idx*C.S.sz u+off))++ vx.cells.toList ++ cur.toList.drop (bo+(idx*C.S.sz u+off)+ vx.cells.toList.length)).toArray, ?_,set_obj hI hb rfl (by rw [hobj];rfl) (below_setRow (Below.refl B w) e5 _) (fun k hk=>setRow_other w b k _ hk) (fun hE=>?_) rfl⟩
 ·simp [Instr.storeAt,Instr.sureAddr,storeVar,run_sizeOf hi,hsz,hrun]
 ·have hN:=hI.fresh
  have hcl:xs.length*C.S.sz u≤(cur.toList.drop bo).length:=by simp;omega
  have hsp:=splice_take (cur.toList.drop bo) vx.cells.toList (xs.length*C.S.sz u) (idx*C.S.sz u+off) (by omega) hcl
  rw [e10,←splice_off _ _ _ _ (by simp;omega)] at hsp
  refine ⟨_,ws.take (idx*C.S.sz u+off)++ vx.cells.toList ++ ws.drop (idx*C.S.sz u+off+vx.cells.toList.length),rfl,⟨?_, .inr ⟨b,cap,_,fz,bo,by rw [List.length_set],e5,setRow_heap w b cur _ u fz e6,by rw [List.length_set];exact e7,e8, ?_, ?_, ?_⟩⟩,fun j k hj hk=>?_⟩
  ·simp only [List.length_append,List.length_take,List.length_drop,List.length_set];omega
  ·simp only [List.size_toArray,List.length_append,List.length_take,List.length_drop,Array.length_toList];omega
  ·rw [List.length_set];exact hsp
  ·refine e11.imp id fun h=>?_
   simp only [List.size_toArray,List.length_append,List.length_take,List.length_drop,Array.length_toList];omega
  ·rw [List.length_set] at hj
   rw [splice_getD _ _ _ _ _ (by omega)]
   by_cases hji:j=idx
   ·subst hji
    have hy':(xs.set j y).getD j (C.S.dflt u)= y:=by simp [List.getD,hj]
    rw [hy']
    have hold:G2 C.S env w (C.S.cell u (xs.getD j (C.S.dflt u))) ((ws.drop (j*C.S.sz u)).take (C.S.sz u)):= by
     refine ⟨by simp only [List.length_take,List.length_drop,hS.len];omega,fun q=>?_⟩
     by_cases hq:q < C.S.sz u
     ·rw [show ((ws.drop (j*C.S.sz u)).take (C.S.sz u)).getD q undef=ws.getD (j*C.S.sz u+q) undef by simp [List.getD,hq]]
      exact e3 j q hj hq
     ·have:(C.S.cell u (xs.getD j (C.S.dflt u))).getD q AV.any = .any:=by
       have:=hS.len u (xs.getD j (C.S.dflt u))
       generalize C.S.cell u (xs.getD j (C.S.dflt u))= cs at this ⊢
       rw [List.getD,List.getElem?_eq_none (by omega)];rfl
      rw [this];exact .any _
    have hnew:=overL (hold.ext hE hN) (hn.ext hE hN) (by rw [hS.len];exact h2)
    have hdec:=(hS.dec u _ y hy env _ _ hnew).2 k
    rw [splice_getD _ _ _ _ _ (by simp only [List.length_take,List.length_drop];omega)] at hdec
    by_cases hr:off≤k∧k < off+vx.cells.toList.length
    ·rw [if_pos hr] at hdec
     rw [if_pos (by omega),show j*C.S.sz u+k - (j*C.S.sz u+off)= k - off by omega]
     exact hdec
    ·rw [if_neg hr] at hdec
     rw [if_neg (by omega)]
     rw [show ((ws.drop (j*C.S.sz u)).take (C.S.sz u)).getD k undef=ws.getD (j*C.S.sz u+k) undef by simp [List.getD,hk]] at hdec
     exact hdec
   ·have hx':(xs.set idx y).getD j (C.S.dflt u)= xs.getD j (C.S.dflt u):= by simp only [List.getD,List.getElem?_set];rw [if_neg (by omega)]
    rw [hx',if_neg ?_]
    ·exact (e3 j k hj hk).ext hE hN
    ·rintro ⟨ha,hb⟩
     rcases Nat.lt_or_gt_of_ne hji with hlt | hgt
     ·have:(j+1)* C.S.sz u≤idx*C.S.sz u:=Nat.mul_le_mul_right _ hlt
      rw [Nat.add_mul,Nat.one_mul] at this
      omega
     ·have:(idx+1)* C.S.sz u≤j*C.S.sz u:=Nat.mul_le_mul_right _ hgt
      rw [Nat.add_mul,Nat.one_mul] at this
      omega
end
end Go.Aw
