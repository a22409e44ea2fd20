/-
  The reckoner's conversions, literals and choices are the model's; new memory that is never written again (own work).
-/
import Derived.Test.YtlnbhdcaebmffaaGreatXAwQ
set_option linter.unusedSimpArgs false
set_option linter.unusedVariables false
namespace Go.Aw
open Go.RowKit
section
variable {C:Cx} {env:Env} {w:World} {B:Nat} {H:List (AObj C.S.El)}
def PureR (C:Cx) (B:Nat) (env:Env) (w:World) (H:List (AObj C.S.El)) (x:AV C.S.El) (v:Value) (w':World): Prop :=
 ∃env',env'.val=env.val∧Γ C.S env' w' x v∧Inv C.S B env' w' H∧Ext B H.length env w env' w'
theorem PureR.same (hI:Inv C.S B env w H) {x:AV C.S.El} {v:Value} (h:Γ C.S env w x v): PureR C B env w H x v w:=⟨env,rfl,h,hI,Ext.refl _ _ _ _⟩
theorem ObjOk.ext {S:Sig} {B N:Nat} {env env':Env} {w w':World} (he:Ext B N env w env' w') (hN : ∀i v,env.val i=some v→i < N) {v:Option Value} {o:AObj S.El} (h:ObjOk S env w B v o)
  (hb : ∀u b,v=some u→blkV u=some b→live o=true→w'.heap[b]? = w.heap[b]?): ObjOk S env' w' B v o:=by
 cases o with
 | cells cs =>
  obtain ⟨b,vs,T,h1,h2,h3,h4⟩:= h
  exact ⟨b,vs,T,h1,h2,by rw [hb _ b h1 rfl rfl];exact h3,h4.ext he hN⟩
 | row t xs =>
  obtain ⟨u,ws,h1,h2,h3⟩:= h
  refine ⟨u,ws,h1,⟨h2.1, ?_⟩,fun i j hi hj=>(h3 i j hi hj).ext he hN⟩
  rcases h2.2 with h4 | ⟨g,cap,cur,fz,bo,h4,h5,h6,r⟩
  ·exact .inl h4
  ·exact .inr ⟨g,cap,cur,fz,bo,h4,h5,by rw [hb u g h1 (by rw [h4];rfl) rfl];exact h6,r⟩
 | frozen t xs =>
  obtain ⟨u,h1,h2⟩:= h
  exact ⟨u,h1,h2.ext he hN⟩
 | mp k ks vs =>
  obtain ⟨b,es,ck,h1,h2,h3,h4,h5⟩:= h
  exact ⟨b,es,ck,h1,h2,by rw [hb _ b h1 rfl rfl];exact h3,h4,h5.ext he hN⟩
 | gone=>trivial
theorem Inv.ext {env':Env} {w':World} (hI:Inv C.S B env w H) (he:Ext B H.length env w env' w') (hval : ∀i v,env'.val i=some v→env.val i=some v)
  (hb : ∀i u b,env.val i=some u→blkV u=some b→live (obj H i)= true→w'.heap[b]? = w.heap[b]?)
  (hfree : ∀i u b o,live (obj H i)= true→env.val i=some u→blkV u=some b→env'.prot b o→env.prot b o) (hin : ∀b o,env'.prot b o→b < w'.heap.size): Inv C.S B env' w' H:=by
 have hN : ∀i v,env.val i=some v→i < H.length:=hI.fresh
 have hv : ∀i,env'.val i=env.val i:=fun i=>by
  cases h:env'.val i with
  | some v=>exact (hval i v h).symm
  | none=>cases h':env.val i with
   | none=>rfl
   | some v=>have:=he.val i v (hN i v h') h';rw [h] at this;cases this
 refine ⟨fun i=>?_,fun i v b hl h1 h2 o hp=>?_,fun i j u v b h1 h2 h3 h4 h5 h6=>?_,hin,fun i v h=>hN i v (hval i v h),fun g=>(hI.glob g).ext he hN,Nat.le_trans hI.base he.below.size⟩
 ·rw [hv i]
  exact (hI.objs i).ext he hN (fun u b h1 h2 h3=>hb i u b h1 h2 h3)
 ·rw [hv i] at h1
  exact hI.free i v b hl h1 h2 o (hfree i v b o hl h1 h2 hp)
 ·rw [hv] at h3 h4
  exact hI.apart i j u v b h1 h2 h3 h4 h5 h6
theorem live_block (hI:Inv C.S B env w H) {i:Nat} {u:Value} {b:Nat} (h1:env.val i=some u) (h2:blkV u=some b) (h3:live (obj H i)= true): b < w.heap.size:=by
 have ho:=hI.objs i
 cases hobj:obj H i with
 | cells cs =>
  rw [hobj] at ho
  obtain ⟨b',vs,T,e1,_,e2,_⟩:= ho
  rw [h1] at e1;cases e1
  cases h2
  exact (Array.getElem?_eq_some_iff.1 e2).1
 | row t xs =>
  rw [hobj] at ho
  obtain ⟨u',ws,e1,e2,_⟩:= ho
  rw [h1] at e1;cases e1
  rcases e2.2 with ⟨e3,_⟩| ⟨g,cap,cur,fz,bo,e3,_,e4,_⟩
  ·rw [e3] at h2;cases h2
  ·rw [e3] at h2;cases h2
   exact (Array.getElem?_eq_some_iff.1 e4).1
 | mp k ks vs =>
  rw [hobj] at ho
  obtain ⟨b',es,ck,e1,_,e2,_⟩:= ho
  rw [h1] at e1;cases e1
  cases h2
  exact (Array.getElem?_eq_some_iff.1 e2).1
 | _=>rw [hobj] at h3;cases h3
structure OneMore (w w':World) (o:Obj): Prop where
 below:Below w.heap.size w w'
 new:w'.heap[w.heap.size]? = some o
 size:w'.heap.size=w.heap.size+1
theorem pure_alloc (hI:Inv C.S B env w H) {w':World} {cs:Array Value} {e:TypeId} {fr:Nat×Nat} (h1:OneMore w w' (.cells cs e fr)):
  ∃env',env'.val=env.val∧Inv C.S B env' w' H∧Ext B H.length env w env' w'∧(∀k u,cs[k]? = some u→w'.cell? ⟨w.heap.size,k,none⟩= some u∧env'.prot w.heap.size k):= by
 let env':Env:=⟨env.val,fun b o=>env.prot b o∨(b=w.heap.size∧o < cs.size)⟩
 have he:Ext B H.length env w env' w':=⟨h1.below.mono hI.base,fun _ _ _ h=>h,fun _ _ h => .inl h,
  fun b o hp=>h1.below.block b (hI.inheap b o hp),fun b o hp=>hp.imp id fun h=>by rw [h.1];exact hI.base⟩
 refine ⟨env',rfl,hI.ext he (fun _ _ h=>h) (fun i u b h2 h3 h4=>h1.below.block b (live_block hI h2 h3 h4)) (fun i u b o h2 h3 h4 hp=>?_) (fun b o hp=>?_),he,fun k u hk=>⟨?_, .inr ⟨rfl,(Array.getElem?_eq_some_iff.1 hk).1⟩⟩⟩
 ·rcases hp with hp | ⟨rfl,_⟩
  ·exact hp
  ·have:=live_block hI h3 h4 h2;omega
 ·rcases hp with hp | ⟨rfl,_⟩
  ·have:=hI.inheap b o hp;have:=h1.size;omega
  ·have:=h1.size;omega
 ·simp only [World.cell?,h1.new]
  simpa using hk
theorem isStr_run {t:TypeId} (h:isStr C.P t=true): C.P.underlying t=some .string:=by
 unfold isStr at h
 split at h
 ·assumption
 ·cases h
theorem oneMore_alloc (w:World) (o:Obj): OneMore w (w.alloc o) o:=⟨(Below.refl _ _).alloc (Nat.le_refl _) o,heap_alloc_new w o,by show (w.heap.push o).size=_;simp⟩
theorem oneMore_drew (w:World) (o:Obj): OneMore w (w.drew.alloc o) o:=⟨((Below.refl _ _).drew).alloc (Nat.le_refl _) o,heap_alloc_new w.drew o,by show (w.heap.push o).size=_;simp⟩
theorem convA_sound (hS:SigOk C.S) (hI:Inv C.S B env w H) {src dst:TypeId} {ax r:AV C.S.El} {vx:Value} (h:convA C src dst ax=some r) (hx:Γ C.S env w ax vx):
  ∃v w',(convert src dst vx).run C.P w = .ok v w'∧PureR C B env w H r v w':=by
 unfold convA at h
 cases hs:C.P.underlying src with
 | none=>rw [hs] at h;cases h
 | some d0 =>
 rw [hs] at h
 simp only [Option.isNone_some,cond_false] at h
 split at h
 ·rename_i k0 n
  cases hx.unv
  split at h
  ·rename_i k hd
   cases h
   have hd':C.P.underlying dst=some (.int (C.P.intKind dst)):= by simp [Program.intKind,hd]
   have hk:C.P.intKind dst=k:=by simp [Program.intKind,hd]
   have:=run_convert_int (P:=C.P) w src dst k0 n (by rw [hs];rfl) hd'
   rw [hk] at this
   exact ⟨_,_,this, .same hI (.v _)⟩
  ·cases h
 ·rename_i s
  cases hx.unv
  split at h
  ·rename_i hd
   cases h
   refine ⟨_,_, ?_, .same hI (.v _)⟩
   simp [convert,run_underlying hs,run_underlying hd]
  ·cases h
 ·cases h
theorem convB_run (hS:SigOk C.S) {src dst:TypeId} {ax:AV C.S.El} {r:Sigma fun e=>List (C.S.El e)} {vx:Value} (h:convB C src dst ax=some r) (hx:Γ C.S env w ax vx):
  ∃cap row,(convert src dst vx).run C.P w = .ok (.slice (some ⟨w.heap.size,0,none⟩) r.2.length cap) (w.drew.alloc (.cells row r.1 (row.size,row.size+1)))∧r.2.length≤cap∧(r.2.length≤maxLen→cap≤maxLen)∧row.size=cap*C.S.sz r.1∧C.S.sz r.1=1∧
   ∃val:Nat→Value,(∀k,k < r.2.length→row[k]? = some (val k))∧∀i j,i < r.2.length→∀env' w',Γ C.S env' w' ((C.S.cell r.1 (r.2.getD i (C.S.dflt r.1))).getD j .any) (val (i*C.S.sz r.1+j)):= by
 unfold convB at h
 split at h
 ·rename_i s
  cases hx.unv
  split at h
  ·rename_i e hd
   obtain ⟨hst,h⟩:= cond_some h
   split at h
   ·rename_i he
    simp only [Option.map_eq_some_iff] at h
    obtain ⟨f,hf,rfl⟩:= h
    have hr:=run_bytes_of_string (P:=C.P) w src dst e s (isStr_run hst) hd he
    obtain ⟨hz,hb⟩:= hS.bytes e f hf
    obtain ⟨hl,hb⟩:= hb s
    have key : ∀k,k < s.size→(bytesRow s (grownCap w s.size 0 e))[k]? = some (.int .u8 ((bytesI s).getD k 0)):= by
     intro k hk
     have hk':k < s.data.size:=hk
     simp only [bytesRow,bytesI]
     rw [Array.getElem?_append_left (by simpa using hk')]
     have e1:s.data[k]? = some s.data[k]:= Array.getElem?_eq_getElem hk'
     simp [List.getD,e1]
    have hge:=grownCap_ge w s.size 0 e
    refine ⟨grownCap w s.size 0 e,bytesRow s (grownCap w s.size 0 e),by rw [hl];exact hr,by rw [hl];exact hge,fun h=>grownCap_le_maxLen w s.size 0 e (by rw [hl] at h;exact h), ?_,hz,fun k => .int .u8 ((bytesI s).getD k 0),fun k hk=>key k (by rw [hl] at hk;exact hk),fun i j hi env' w'=>?_⟩
    ·rw [hz,Nat.mul_one]
     have:s.data.size=s.size:=rfl
     simp only [bytesRow,Array.size_append,Array.size_map,Array.size_replicate]
     omega
    ·rw [hl] at hi
     rw [hb i hi,hz,Nat.mul_one]
     cases j with
     | zero=>simpa using Γ.v (S:=C.S) _
     | succ j=>simpa using Γ.any (S:=C.S) _
   ·cases h
  ·cases h
 ·cases h
theorem convB_sl (hS:SigOk C.S) (hI:Inv C.S B env w H) {src dst:TypeId} {ax:AV C.S.El} {r:Sigma fun e=>List (C.S.El e)} {vx:Value} (h:convB C src dst ax=some r) (hob:r.2.length≤9223372036854775807) (hx:Γ C.S env w ax vx):
  ∃v w',(convert src dst vx).run C.P w = .ok v w'∧PureR C B env w H (.sl r.1 r.2 false) v w':=by
 obtain ⟨cap,row,hr,h1,_,h2,hz,val,h3,h4⟩:= convB_run hS h hx
 obtain ⟨env',hv0,hI',hE,hc⟩:= pure_alloc hI (oneMore_drew w (.cells row r.1 (row.size,row.size+1)))
 refine ⟨_,_,hr,env',hv0, ?_,hI',hE⟩
 exact .sl r.1 r.2 false w.heap.size 0 cap val (by simp) ⟨h1,hob⟩ (fun k hk=>by rw [hz,Nat.mul_one] at hk;rw [Nat.zero_add];exact hc k _ (h3 k hk)) (fun i j hi=>h4 i j hi _ _)
theorem setA_sound {cs:List (AV C.S.El)} {vs:Array Value} {i:Nat} {x:AV C.S.El} {u:Value} (hg:G2 C.S env w cs vs.toList) (hx:Γ C.S env w x u): G2 C.S env w (cs.set i x) (vs.setIfInBounds i u).toList:=by
 refine ⟨by simp [hg.1,←Array.length_toList],fun j=>?_⟩
 have hl:vs.size=cs.length:=by simpa using hg.1
 have hj:=hg.2 j
 simp only [List.getD,Array.toList_setIfInBounds,List.getElem?_set] at hj ⊢
 by_cases h1:i=j
 ·subst h1
  simp only [if_true]
  by_cases h2:i < cs.length
  ·rw [if_pos h2,if_pos (by simpa [hl] using h2)];simpa using hx
  ·rw [if_neg h2,if_neg (by simpa [hl] using h2)];simpa using Γ.any _
 ·rw [if_neg h1,if_neg h1];exact hj
theorem over_sound : ∀(xs cs:List (AV C.S.El)) (off k:Nat) (us:List Value) (vs:Array Value),G2 C.S env w cs vs.toList→G2 C.S env w xs us→
  G2 C.S env w (over cs (off+k) xs) ((us.zipIdx k).foldl (fun (a:Array Value) (p:Value×Nat)=> a.setIfInBounds (off+p.2) p.1) vs).toList
 | [],cs,off,k,us,vs,hg,hx=>by
  have:us=[]:= List.eq_nil_of_length_eq_zero hx.1
  subst this
  simpa [over] using hg
 | x::xs,cs,off,k,us,vs,hg,hx=>by
  obtain ⟨u,us',rfl,h1,h2⟩:= hx.uncons
  simp only [over,List.zipIdx_cons,List.foldl_cons]
  rw [setN_eq]
  exact over_sound xs _ off (k+1) us' _ (setA_sound hg h1) h2
theorem fillA_sound (place:Nat→Option (Nat×Nat)): ∀(parts:List (Nat×AV C.S.El)) (vparts:List (Nat×Value)) (cs ds:List (AV C.S.El)) (vs:Array Value),fillA C.P place cs parts=some ds→
  G2 C.S env w cs vs.toList→parts.length=vparts.length→(∀(j:Nat) (p:Nat×AV C.S.El) (q:Nat×Value),parts[j]? = some p→vparts[j]? = some q→p.1=q.1∧Γ C.S env w p.2 q.2)→
  ∃us,Instr.fill place vs vparts=some us∧G2 C.S env w ds us.toList
 | [],vparts,cs,ds,vs,h,hg,hl,_=>by
  have:vparts=[]:= List.eq_nil_of_length_eq_zero hl.symm
  subst this
  simp only [fillA,Option.some.injEq] at h
  subst h
  exact ⟨vs,rfl,hg⟩
 | (i,x):: parts,vparts,cs,ds,vs,h,hg,hl,hp=>by
  match vparts,hl,hp with
  | (i',v):: vparts,hl,hp =>
  obtain ⟨h1,h2⟩:= hp 0 _ _ rfl rfl
  simp only at h1 h2
  subst h1
  simp only [fillA] at h
  split at h
  ·rename_i off size xs hpl hcs
   obtain ⟨hc,h⟩:= cond_some h
   simp only [Bool.and_eq_true,Nat.ble_eq] at hc
   have hc:=And.intro (Nat.eq_of_beq_eq_true hc.1) hc.2
   have hg2:=cellsOf_sound hcs h2
   have hsz:v.cells.size=size:=by rw [←hc.1];simpa using hg2.1
   have hle:off+v.cells.size≤vs.size:=by rw [hsz];have:=hg.1;simp at this;omega
   have hov:=over_sound xs cs off 0 v.cells.toList vs hg hg2
   rw [Nat.add_zero] at hov
   obtain ⟨us,hu,hd⟩:= fillA_sound place parts vparts _ ds _ h hov (by simpa using hl) (fun j p q hj hq=>hp (j+1) p q (by simpa using hj) (by simpa using hq))
   refine ⟨us, ?_,hd⟩
   simp only [Instr.fill,hpl]
   rw [if_neg (by simp [hsz];omega)]
   rw [←hu]
   congr 1
   rw [←Array.foldl_toList,Array.toList_zipIdx]
  ·cases h
theorem zeroT_run {t:TypeId} {z:List (AV C.S.El)} (h:zeroT C.P t=some z): ∃zv,(∀w,(zeroValue t).run C.P w = .ok zv w)∧z=zv.cells.toList.map .v∧∃i,C.P.info? t=some i∧i.zero=some zv:=by
 unfold zeroT at h
 cases hi:C.P.info? t with
 | none=>simp [hi] at h
 | some i =>
  cases hz:i.zero with
  | none=>simp [hi,hz] at h
  | some zv =>
   simp only [hi,Option.bind_some,hz,Option.map_some,Option.some.injEq] at h
   exact ⟨zv,fun w=>by simp [zeroValue,typeInfo,hi,hz],h.symm,i,rfl,hz⟩
theorem places_run : ∀(fs:List Field) (w:World),(∀f∈fs,(C.P.info? f.type).isSome=true)→(fs.mapM (m:=Sem) fun f=>Prod.mk f.offset <$> sizeOf f.type).run C.P w = .ok (fs.map fun f=>(f.offset,sizeT C.P f.type)) w
 | [],w,_=>by simp
 | f::fs,w,h=>by
  have hf:=h f (by simp)
  cases hi:C.P.info? f.type with
  | none=>rw [hi] at hf;cases hf
  | some i =>
   have ih:=places_run fs w (fun f hf=>h f (by simp [hf]))
   have e:sizeT C.P f.type=i.size:=by simp [sizeT,hi]
   simp only [List.mapM_cons,List.map_cons]
   simp [run_sizeOf hi,ih,e]
theorem parts_ok {parts:List (Nat×Operand)} {rho:Operand→AV C.S.El} {e:Operand→Value} (h : ∀x,x∈parts.map (·.2)→Γ C.S env w (rho x) (e x)):
  (parts.map fun (i,x)=> (i,rho x)).length=(parts.map fun (i,x)=> (i,e x)).length∧∀(j:Nat) (p:Nat×AV C.S.El) (q:Nat×Value),(parts.map fun (i,x)=> (i,rho x))[j]? = some p→(parts.map fun (i,x)=> (i,e x))[j]? = some q→p.1=q.1∧Γ C.S env w p.2 q.2:=by
 refine ⟨by simp,fun j p q hp hq=>?_⟩
 simp only [List.getElem?_map,Option.map_eq_some_iff] at hp hq
 obtain ⟨a,ha,rfl⟩:= hp
 obtain ⟨b,hb,rfl⟩:= hq
 rw [ha] at hb
 cases hb
 exact ⟨rfl,h _ (List.mem_map_of_mem (List.mem_of_getElem? ha))⟩
theorem buildA_sound {t:TypeId} {parts:Array (Nat×Operand)} {rho:Operand→AV C.S.El} {e:Operand→Value} {r:AV C.S.El} (hr:buildA C t (parts.toList.map fun (i,x)=> (i,rho x))= some r)
  (h : ∀x,x∈parts.toList.map (·.2)→Γ C.S env w (rho x) (e x)): ∃v,(Instr.build t (parts.map fun (i,x)=> (i,e x))).run C.P w = .ok v w∧Γ C.S env w r v:=by
 obtain ⟨hl,hp⟩:= parts_ok h
 unfold buildA at hr
 split at hr
 ·rename_i z fs hz hd
  obtain ⟨zv,hzr,rfl,_⟩:= zeroT_run hz
  obtain ⟨hall,hr⟩:= cond_some hr
  simp only [Option.map_eq_some_iff] at hr
  obtain ⟨ds,hf,rfl⟩:= hr
  obtain ⟨us,hu,hg⟩:= fillA_sound (C:=C) (env:=env) (w:=w) _ _ _ _ _ zv.cells hf (G2.vmap _) hl hp
  refine ⟨.agg us, ?_,G2.agg hg⟩
  have hm:(fs.mapM (m:=Sem) fun f=>Prod.mk f.offset <$> sizeOf f.type).run C.P w = .ok (fs.map fun f=>(f.offset,sizeT C.P f.type)) w:=by
   rw [Array.mapM_eq_mapM_toList]
   have:=places_run fs.toList w (fun f hf=>by simpa using (List.all_eq_true.1 hall) f hf)
   simp [this,←Array.toList_map]
  have he:(fun i=>(nth fs.toList i).map fun f=>(f.offset,sizeT C.P f.type))= (fun i=>(fs.map fun f=>(f.offset,sizeT C.P f.type))[i]?):= by
   funext i;simp [nth_eq]
  rw [he] at hu
  have hu':Instr.fill (fun x=>Option.map (fun f=>(f.offset,sizeT C.P f.type)) fs[x]?) zv.cells (List.map (fun x=>(x.fst,e x.snd)) parts.toList)= some us:=by simpa using hu
  simp [Instr.build,hzr,run_underlying hd,hm,hu']
 ·rename_i z n el hz hd
  obtain ⟨zv,hzr,rfl,_⟩:= zeroT_run hz
  obtain ⟨hall,hr⟩:= cond_some hr
  simp only [Option.map_eq_some_iff] at hr
  obtain ⟨ds,hf,rfl⟩:= hr
  obtain ⟨us,hu,hg⟩:= fillA_sound (C:=C) (env:=env) (w:=w) _ _ _ _ _ zv.cells hf (G2.vmap _) hl hp
  refine ⟨.agg us, ?_,G2.agg hg⟩
  cases hi:C.P.info? el with
  | none=>rw [hi] at hall;cases hall
  | some i =>
   have:sizeT C.P el=i.size:=by simp [sizeT,hi]
   rw [this] at hu
   have hu':Instr.fill (fun k=>some (k*i.size,i.size)) zv.cells (List.map (fun x=>(x.fst,e x.snd)) parts.toList)= some us:=by simpa using hu
   simp [Instr.build,hzr,run_underlying hd,run_sizeOf hi,hu']
 ·cases hr
end
end Go.Aw
