import Derived.Test.YtppceadhdckpmaaGreatDoorXAwQ
import Derived.Laws.BytesString
import Derived.Laws.CopyOwn
section
/-
  The reckoner's conversions, literals and choices are the model's; new memory that is never written again (own work).
-/
set_option linter.unusedSimpArgs false
set_option linter.unusedVariables false
namespace Go.Aw
open Go.RowKit
section
variable {C:Cx} {env:Env} {w:World} {B:Nat} {H:List (AObj C.S.El)}
def PureR (C:Cx) (B:Nat) (env:Env) (w:World) (H:List (AObj C.S.El)) (x:AV C.S.El) (v:Value) (w':World): Prop :=
 ∃env',env'.val=env.val∧Γ C.S env' w' x v∧Inv C.S B env' w' H∧Ext B H.length env w env' w'
theorem PureR.same (hI:Inv C.S B env w H) {x:AV C.S.El} {v:Value} (h:Γ C.S env w x v): PureR C B env w H x v w:=⟨env,rfl,h,hI,Ext.refl _ _ _ _⟩
theorem ObjOk.ext {S:Sig} {B N:Nat} {env env':Env} {w w':World} (he:Ext B N env w env' w') (hN : ∀i v,env.val i=some v→i < N) {v:Option Value} {o:AObj S.El} (h:ObjOk S env w B v o)
  (hb : ∀u b,v=some u→blkV u=some b→live o=true→w'.heap[b]? = w.heap[b]?): ObjOk S env' w' B v o:=by
 cases o with
 | cells cs =>
  obtain ⟨b,vs,T,h1,h2,h3,h4⟩:= h
  exact ⟨b,vs,T,h1,h2,by rw [hb _ b h1 rfl rfl];exact h3,h4.ext he hN⟩
 | row t xs =>
  obtain ⟨u,ws,h1,h2,h3⟩:= h
  refine ⟨u,ws,h1,⟨h2.1, ?_⟩,fun i j hi hj=>(h3 i j hi hj).ext he hN⟩
  rcases h2.2 with h4 | ⟨g,cap,cur,fz,bo,h4,h5,h6,r⟩
  ·exact .inl h4
  ·exact .inr ⟨g,cap,cur,fz,bo,h4,h5,by rw [hb u g h1 (by rw [h4];rfl) rfl];exact h6,r⟩
 | frozen t xs =>
  obtain ⟨u,h1,h2⟩:= h
  exact ⟨u,h1,h2.ext he hN⟩
 | mp k ks vs =>
  obtain ⟨b,es,ck,h1,h2,h3,h4,h5⟩:= h
  exact ⟨b,es,ck,h1,h2,by rw [hb _ b h1 rfl rfl];exact h3,h4,h5.ext he hN⟩
 | gone=>trivial
theorem Inv.ext {env':Env} {w':World} (hI:Inv C.S B env w H) (he:Ext B H.length env w env' w') (hval : ∀i v,env'.val i=some v→env.val i=some v)
  (hb : ∀i u b,env.val i=some u→blkV u=some b→live (obj H i)= true→w'.heap[b]? = w.heap[b]?)
  (hfree : ∀i u b o,live (obj H i)= true→env.val i=some u→blkV u=some b→env'.prot b o→env.prot b o) (hin : ∀b o,env'.prot b o→b < w'.heap.size): Inv C.S B env' w' H:=by
 have hN : ∀i v,env.val i=some v→i < H.length:=hI.fresh
 have hv : ∀i,env'.val i=env.val i:=fun i=>by
  cases h:env'.val i with
  | some v=>exact (hval i v h).symm
  | none=>cases h':env.val i with
   | none=>rfl
   | some v=>have:=he.val i v (hN i v h') h';rw [h] at this;cases this
 refine ⟨fun i=>?_,fun i v b hl h1 h2 o hp=>?_,fun i j u v b h1 h2 h3 h4 h5 h6=>?_,hin,fun i v h=>hN i v (hval i v h),fun g=>(hI.glob g).ext he hN,Nat.le_trans hI.base he.below.size⟩
 ·rw [hv i]
  exact (hI.objs i).ext he hN (fun u b h1 h2 h3=>hb i u b h1 h2 h3)
 ·rw [hv i] at h1
  exact hI.free i v b hl h1 h2 o (hfree i v b o hl h1 h2 hp)
 ·rw [hv] at h3 h4
  exact hI.apart i j u v b h1 h2 h3 h4 h5 h6
theorem live_block (hI:Inv C.S B env w H) {i:Nat} {u:Value} {b:Nat} (h1:env.val i=some u) (h2:blkV u=some b) (h3:live (obj H i)= true): b < w.heap.size:=by
 have ho:=hI.objs i
 cases hobj:obj H i with
 | cells cs =>
  rw [hobj] at ho
  obtain ⟨b',vs,T,e1,_,e2,_⟩:= ho
  rw [h1] at e1;cases e1
  cases h2
  exact (Array.getElem?_eq_some_iff.1 e2).1
 | row t xs =>
  rw [hobj] at ho
  obtain ⟨u',ws,e1,e2,_⟩:= ho
  rw [h1] at e1;cases e1
  rcases e2.2 with ⟨e3,_⟩| ⟨g,cap,cur,fz,bo,e3,_,e4,_⟩
  ·rw [e3] at h2;cases h2
  ·rw [e3] at h2;cases h2
   exact (Array.getElem?_eq_some_iff.1 e4).1
 | mp k ks vs =>
  rw [hobj] at ho
  obtain ⟨b',es,ck,e1,_,e2,_⟩:= ho
  rw [h1] at e1;cases e1
  cases h2
  exact (Array.getElem?_eq_some_iff.1 e2).1
 | _=>rw [hobj] at h3;cases h3
structure OneMore (w w':World) (o:Obj): Prop where
 below:Below w.heap.size w w'
 new:w'.heap[w.heap.size]? = some o
 size:w'.heap.size=w.heap.size+1
theorem pure_alloc (hI:Inv C.S B env w H) {w':World} {cs:Array Value} {e:TypeId} {fr:Nat×Nat} (h1:OneMore w w' (.cells cs e fr)):
  ∃env',env'.val=env.val∧Inv C.S B env' w' H∧Ext B H.length env w env' w'∧(∀k u,cs[k]? = some u→w'.cell? ⟨w.heap.size,k,none⟩= some u∧env'.prot w.heap.size k):= by
 let env':Env:=⟨env.val,fun b o=>env.prot b o∨(b=w.heap.size∧o < cs.size)⟩
 have he:Ext B H.length env w env' w':=⟨h1.below.mono hI.base,fun _ _ _ h=>h,fun _ _ h => .inl h,
  fun b o hp=>h1.below.block b (hI.inheap b o hp),fun b o hp=>hp.imp id fun h=>by rw [h.1];exact hI.base⟩
 refine ⟨env',rfl,hI.ext he (fun _ _ h=>h) (fun i u b h2 h3 h4=>h1.below.block b (live_block hI h2 h3 h4)) (fun i u b o h2 h3 h4 hp=>?_) (fun b o hp=>?_),he,fun k u hk=>⟨?_, .inr ⟨rfl,(Array.getElem?_eq_some_iff.1 hk).1⟩⟩⟩
 ·rcases hp with hp | ⟨rfl,_⟩
  ·exact hp
  ·have:=live_block hI h3 h4 h2;omega
 ·rcases hp with hp | ⟨rfl,_⟩
  ·have:=hI.inheap b o hp;have:=h1.size;omega
  ·have:=h1.size;omega
 ·simp only [World.cell?,h1.new]
  simpa using hk
theorem isStr_run {t:TypeId} (h:isStr C.P t=true): C.P.underlying t=some .string:=by
 unfold isStr at h
 split at h
 ·assumption
 ·cases h
theorem oneMore_alloc (w:World) (o:Obj): OneMore w (w.alloc o) o:=⟨(Below.refl _ _).alloc (Nat.le_refl _) o,heap_alloc_new w o,by show (w.heap.push o).size=_;simp⟩
theorem oneMore_drew (w:World) (o:Obj): OneMore w (w.drew.alloc o) o:=⟨((Below.refl _ _).drew).alloc (Nat.le_refl _) o,heap_alloc_new w.drew o,by show (w.heap.push o).size=_;simp⟩
theorem convA_sound (hS:SigOk C.S) (hI:Inv C.S B env w H) {src dst:TypeId} {ax r:AV C.S.El} {vx:Value} (h:convA C src dst ax=some r) (hx:Γ C.S env w ax vx):
  ∃v w',(convert src dst vx).run C.P w = .ok v w'∧PureR C B env w H r v w':=by
 unfold convA at h
 cases hs:C.P.underlying src with
 | none=>rw [hs] at h;cases h
 | some d0 =>
 rw [hs] at h
 simp only [Option.isNone_some,cond_false] at h
 split at h
 ·rename_i k0 n
  cases hx.unv
  split at h
  ·rename_i k hd
   cases h
   have hd':C.P.underlying dst=some (.int (C.P.intKind dst)):= by simp [Program.intKind,hd]
   have hk:C.P.intKind dst=k:=by simp [Program.intKind,hd]
   have:=run_convert_int (P:=C.P) w src dst k0 n (by rw [hs];rfl) hd'
   rw [hk] at this
   exact ⟨_,_,this, .same hI (.v _)⟩
  ·cases h
 ·rename_i s
  cases hx.unv
  split at h
  ·rename_i hd
   cases h
   refine ⟨_,_, ?_, .same hI (.v _)⟩
   simp [convert,run_underlying hs,run_underlying hd]
  ·cases h
 ·cases h
theorem convB_run (hS:SigOk C.S) {src dst:TypeId} {ax:AV C.S.El} {r:Sigma fun e=>List (C.S.El e)} {vx:Value} (h:convB C src dst ax=some r) (hx:Γ C.S env w ax vx):
  ∃cap row,(convert src dst vx).run C.P w = .ok (.slice (some ⟨w.heap.size,0,none⟩) r.2.length cap) (w.drew.alloc (.cells row r.1 (row.size,row.size+1)))∧r.2.length≤cap∧(r.2.length≤maxLen→cap≤maxLen)∧row.size=cap*C.S.sz r.1∧C.S.sz r.1=1∧
   ∃val:Nat→Value,(∀k,k < r.2.length→row[k]? = some (val k))∧∀i j,i < r.2.length→∀env' w',Γ C.S env' w' ((C.S.cell r.1 (r.2.getD i (C.S.dflt r.1))).getD j .any) (val (i*C.S.sz r.1+j)):= by
 unfold convB at h
 split at h
 ·rename_i s
  cases hx.unv
  split at h
  ·rename_i e hd
   obtain ⟨hst,h⟩:= cond_some h
   split at h
   ·rename_i he
    simp only [Option.map_eq_some_iff] at h
    obtain ⟨f,hf,rfl⟩:= h
    have hr:=run_bytes_of_string (P:=C.P) w src dst e s (isStr_run hst) hd he
    obtain ⟨hz,hb⟩:= hS.bytes e f hf
    obtain ⟨hl,hb⟩:= hb s
    have key : ∀k,k < s.size→(bytesRow s (grownCap w s.size 0 e))[k]? = some (.int .u8 ((bytesI s).getD k 0)):= by
     intro k hk
     have hk':k < s.data.size:=hk
     simp only [bytesRow,bytesI]
     rw [Array.getElem?_append_left (by simpa using hk')]
     have e1:s.data[k]? = some s.data[k]:= Array.getElem?_eq_getElem hk'
     simp [List.getD,e1]
    have hge:=grownCap_ge w s.size 0 e
    refine ⟨grownCap w s.size 0 e,bytesRow s (grownCap w s.size 0 e),by rw [hl];exact hr,by rw [hl];exact hge,fun h=>grownCap_le_maxLen w s.size 0 e (by rw [hl] at h;exact h), ?_,hz,fun k => .int .u8 ((bytesI s).getD k 0),fun k hk=>key k (by rw [hl] at hk;exact hk),fun i j hi env' w'=>?_⟩
    ·rw [hz,Nat.mul_one]
     have:s.data.size=s.size:=rfl
     simp only [bytesRow,Array.size_append,Array.size_map,Array.size_replicate]
     omega
    ·rw [hl] at hi
     rw [hb i hi,hz,Nat.mul_one]
     cases j with
     | zero=>simpa using Γ.v (S:=C.S) _
     | succ j=>simpa using Γ.any (S:=C.S) _
   ·cases h
  ·cases h
 ·cases h
theorem convB_sl (hS:SigOk C.S) (hI:Inv C.S B env w H) {src dst:TypeId} {ax:AV C.S.El} {r:Sigma fun e=>List (C.S.El e)} {vx:Value} (h:convB C src dst ax=some r) (hob:r.2.length≤9223372036854775807) (hx:Γ C.S env w ax vx):
  ∃v w',(convert src dst vx).run C.P w = .ok v w'∧PureR C B env w H (.sl r.1 r.2 false) v w':=by
 obtain ⟨cap,row,hr,h1,_,h2,hz,val,h3,h4⟩:= convB_run hS h hx
 obtain ⟨env',hv0,hI',hE,hc⟩:= pure_alloc hI (oneMore_drew w (.cells row r.1 (row.size,row.size+1)))
 refine ⟨_,_,hr,env',hv0, ?_,hI',hE⟩
 exact .sl r.1 r.2 false w.heap.size 0 cap val (by simp) ⟨h1,hob⟩ (fun k hk=>by rw [hz,Nat.mul_one] at hk;rw [Nat.zero_add];exact hc k _ (h3 k hk)) (fun i j hi=>h4 i j hi _ _)
theorem setA_sound {cs:List (AV C.S.El)} {vs:Array Value} {i:Nat} {x:AV C.S.El} {u:Value} (hg:G2 C.S env w cs vs.toList) (hx:Γ C.S env w x u): G2 C.S env w (cs.set i x) (vs.setIfInBounds i u).toList:=by
 refine ⟨by simp [hg.1,←Array.length_toList],fun j=>?_⟩
 have hl:vs.size=cs.length:=by simpa using hg.1
 have hj:=hg.2 j
 simp only [List.getD,Array.toList_setIfInBounds,List.getElem?_set] at hj ⊢
 by_cases h1:i=j
 ·subst h1
  simp only [if_true]
  by_cases h2:i < cs.length
  ·rw [if_pos h2,if_pos (by simpa [hl] using h2)];simpa using hx
  ·rw [if_neg h2,if_neg (by simpa [hl] using h2)];simpa using Γ.any _
 ·rw [if_neg h1,if_neg h1];exact hj
theorem over_sound : ∀(xs cs:List (AV C.S.El)) (off k:Nat) (us:List Value) (vs:Array Value),G2 C.S env w cs vs.toList→G2 C.S env w xs us→
  G2 C.S env w (over cs (off+k) xs) ((us.zipIdx k).foldl (fun (a:Array Value) (p:Value×Nat)=> a.setIfInBounds (off+p.2) p.1) vs).toList
 | [],cs,off,k,us,vs,hg,hx=>by
  have:us=[]:= List.eq_nil_of_length_eq_zero hx.1
  subst this
  simpa [over] using hg
 | x::xs,cs,off,k,us,vs,hg,hx=>by
  obtain ⟨u,us',rfl,h1,h2⟩:= hx.uncons
  simp only [over,List.zipIdx_cons,List.foldl_cons]
  rw [setN_eq]
  exact over_sound xs _ off (k+1) us' _ (setA_sound hg h1) h2
theorem fillA_sound (place:Nat→Option (Nat×Nat)): ∀(parts:List (Nat×AV C.S.El)) (vparts:List (Nat×Value)) (cs ds:List (AV C.S.El)) (vs:Array Value),fillA C.P place cs parts=some ds→
  G2 C.S env w cs vs.toList→parts.length=vparts.length→(∀(j:Nat) (p:Nat×AV C.S.El) (q:Nat×Value),parts[j]? = some p→vparts[j]? = some q→p.1=q.1∧Γ C.S env w p.2 q.2)→
  ∃us,Instr.fill place vs vparts=some us∧G2 C.S env w ds us.toList
 | [],vparts,cs,ds,vs,h,hg,hl,_=>by
  have:vparts=[]:= List.eq_nil_of_length_eq_zero hl.symm
  subst this
  simp only [fillA,Option.some.injEq] at h
  subst h
  exact ⟨vs,rfl,hg⟩
 | (i,x):: parts,vparts,cs,ds,vs,h,hg,hl,hp=>by
  match vparts,hl,hp with
  | (i',v):: vparts,hl,hp =>
  obtain ⟨h1,h2⟩:= hp 0 _ _ rfl rfl
  simp only at h1 h2
  subst h1
  simp only [fillA] at h
  split at h
  ·rename_i off size xs hpl hcs
   obtain ⟨hc,h⟩:= cond_some h
   simp only [Bool.and_eq_true,Nat.ble_eq] at hc
   have hc:=And.intro (Nat.eq_of_beq_eq_true hc.1) hc.2
   have hg2:=cellsOf_sound hcs h2
   have hsz:v.cells.size=size:=by rw [←hc.1];simpa using hg2.1
   have hle:off+v.cells.size≤vs.size:=by rw [hsz];have:=hg.1;simp at this;omega
   have hov:=over_sound xs cs off 0 v.cells.toList vs hg hg2
   rw [Nat.add_zero] at hov
   obtain ⟨us,hu,hd⟩:= fillA_sound place parts vparts _ ds _ h hov (by simpa using hl) (fun j p q hj hq=>hp (j+1) p q (by simpa using hj) (by simpa using hq))
   refine ⟨us, ?_,hd⟩
   simp only [Instr.fill,hpl]
   rw [if_neg (by simp [hsz];omega)]
   rw [←hu]
   congr 1
   rw [←Array.foldl_toList,Array.toList_zipIdx]
  ·cases h
theorem zeroT_run {t:TypeId} {z:List (AV C.S.El)} (h:zeroT C.P t=some z): ∃zv,(∀w,(zeroValue t).run C.P w = .ok zv w)∧z=zv.cells.toList.map .v∧∃i,C.P.info? t=some i∧i.zero=some zv:=by
 unfold zeroT at h
 cases hi:C.P.info? t with
 | none=>simp [hi] at h
 | some i =>
  cases hz:i.zero with
  | none=>simp [hi,hz] at h
  | some zv =>
   simp only [hi,Option.bind_some,hz,Option.map_some,Option.some.injEq] at h
   exact ⟨zv,fun w=>by simp [zeroValue,typeInfo,hi,hz],h.symm,i,rfl,hz⟩
theorem places_run : ∀(fs:List Field) (w:World),(∀f∈fs,(C.P.info? f.type).isSome=true)→(fs.mapM (m:=Sem) fun f=>Prod.mk f.offset <$> sizeOf f.type).run C.P w = .ok (fs.map fun f=>(f.offset,sizeT C.P f.type)) w
 | [],w,_=>by simp
 | f::fs,w,h=>by
  have hf:=h f (by simp)
  cases hi:C.P.info? f.type with
  | none=>rw [hi] at hf;cases hf
  | some i =>
   have ih:=places_run fs w (fun f hf=>h f (by simp [hf]))
   have e:sizeT C.P f.type=i.size:=by simp [sizeT,hi]
   simp only [List.mapM_cons,List.map_cons]
   simp [run_sizeOf hi,ih,e]
theorem parts_ok {parts:List (Nat×Operand)} {rho:Operand→AV C.S.El} {e:Operand→Value} (h : ∀x,x∈parts.map (·.2)→Γ C.S env w (rho x) (e x)):
  (parts.map fun (i,x)=> (i,rho x)).length=(parts.map fun (i,x)=> (i,e x)).length∧∀(j:Nat) (p:Nat×AV C.S.El) (q:Nat×Value),(parts.map fun (i,x)=> (i,rho x))[j]? = some p→(parts.map fun (i,x)=> (i,e x))[j]? = some q→p.1=q.1∧Γ C.S env w p.2 q.2:=by
 refine ⟨by simp,fun j p q hp hq=>?_⟩
 simp only [List.getElem?_map,Option.map_eq_some_iff] at hp hq
 obtain ⟨a,ha,rfl⟩:= hp
 obtain ⟨b,hb,rfl⟩:= hq
 rw [ha] at hb
 cases hb
 exact ⟨rfl,h _ (List.mem_map_of_mem (List.mem_of_getElem? ha))⟩
theorem buildA_sound {t:TypeId} {parts:Array (Nat×Operand)} {rho:Operand→AV C.S.El} {e:Operand→Value} {r:AV C.S.El} (hr:buildA C t (parts.toList.map fun (i,x)=> (i,rho x))= some r)
  (h : ∀x,x∈parts.toList.map (·.2)→Γ C.S env w (rho x) (e x)): ∃v,(Instr.build t (parts.map fun (i,x)=> (i,e x))).run C.P w = .ok v w∧Γ C.S env w r v:=by
 obtain ⟨hl,hp⟩:= parts_ok h
 unfold buildA at hr
 split at hr
 ·rename_i z fs hz hd
  obtain ⟨zv,hzr,rfl,_⟩:= zeroT_run hz
  obtain ⟨hall,hr⟩:= cond_some hr
  simp only [Option.map_eq_some_iff] at hr
  obtain ⟨ds,hf,rfl⟩:= hr
  obtain ⟨us,hu,hg⟩:= fillA_sound (C:=C) (env:=env) (w:=w) _ _ _ _ _ zv.cells hf (G2.vmap _) hl hp
  refine ⟨.agg us, ?_,G2.agg hg⟩
  have hm:(fs.mapM (m:=Sem) fun f=>Prod.mk f.offset <$> sizeOf f.type).run C.P w = .ok (fs.map fun f=>(f.offset,sizeT C.P f.type)) w:=by
   rw [Array.mapM_eq_mapM_toList]
   have:=places_run fs.toList w (fun f hf=>by simpa using (List.all_eq_true.1 hall) f hf)
   simp [this,←Array.toList_map]
  have he:(fun i=>(nth fs.toList i).map fun f=>(f.offset,sizeT C.P f.type))= (fun i=>(fs.map fun f=>(f.offset,sizeT C.P f.type))[i]?):= by
   funext i;simp [nth_eq]
  rw [he] at hu
  have hu':Instr.fill (fun x=>Option.map (fun f=>(f.offset,sizeT C.P f.type)) fs[x]?) zv.cells (List.map (fun x=>(x.fst,e x.snd)) parts.toList)= some us:=by simpa using hu
  simp [Instr.build,hzr,run_underlying hd,hm,hu']
 ·rename_i z n el hz hd
  obtain ⟨zv,hzr,rfl,_⟩:= zeroT_run hz
  obtain ⟨hall,hr⟩:= cond_some hr
  simp only [Option.map_eq_some_iff] at hr
  obtain ⟨ds,hf,rfl⟩:= hr
  obtain ⟨us,hu,hg⟩:= fillA_sound (C:=C) (env:=env) (w:=w) _ _ _ _ _ zv.cells hf (G2.vmap _) hl hp
  refine ⟨.agg us, ?_,G2.agg hg⟩
  cases hi:C.P.info? el with
  | none=>rw [hi] at hall;cases hall
  | some i =>
   have:sizeT C.P el=i.size:=by simp [sizeT,hi]
   rw [this] at hu
   have hu':Instr.fill (fun k=>some (k*i.size,i.size)) zv.cells (List.map (fun x=>(x.fst,e x.snd)) parts.toList)= some us:=by simpa using hu
   simp [Instr.build,hzr,run_underlying hd,run_sizeOf hi,hu']
 ·cases hr
end
end Go.Aw
end
section
/-
  New slices: literals, whose elements read as data (own work).
-/
set_option linter.unusedSimpArgs false
set_option linter.unusedVariables false
namespace Go.Aw
open Go.RowKit
section
variable {C:Cx} {env:Env} {w:World} {B:Nat} {H:List (AObj C.S.El)}
theorem rep_get {α:Type} (l:List α) (hl:0 < l.length): ∀(n i:Nat),(rep n l)[i]? = if i < n*l.length then l[i % l.length]? else none
 | 0,i=>by simp [rep]
 | n+1,i=>by
  rw [rep,List.getElem?_append]
  by_cases h:i < l.length
  ·rw [if_pos h,if_pos (by rw [Nat.add_mul];omega),Nat.mod_eq_of_lt h]
  ·have e:i % l.length=(i - l.length) % l.length:=Nat.mod_eq_sub_mod (by omega)
   rw [if_neg h,rep_get l hl n,e]
   by_cases h2:i - l.length < n*l.length
   ·rw [if_pos h2,if_pos (by rw [Nat.add_mul];omega)]
   ·rw [if_neg h2,if_neg (by rw [Nat.add_mul];omega)]
theorem rep_len {α:Type} (l:List α): ∀n,(rep n l).length=n*l.length
 | 0=>by simp [rep]
 | n+1=>by rw [rep,List.length_append,rep_len l n,Nat.add_mul,Nat.one_mul,Nat.add_comm]
theorem rep_map {α β:Type} (f:α→β) (l:List α): ∀n,rep n (l.map f)= (rep n l).map f
 | 0=>by simp [rep]
 | n+1=>by simp [rep,rep_map f l n]
theorem zeros_eq (z:Array Value) (n k:Nat) (hz:z.size=k) (hk:0 < k): (Array.range (n*k)).map (z[·% z.size]!)= (rep n z.toList).toArray:=by
 apply Array.ext'
 apply List.ext_getElem?
 intro i
 subst hz
 have hl:z.toList.length=z.size:=by simp
 rw [rep_get _ (by simpa using hk)]
 simp only [Array.toList_map,Array.toList_range,List.getElem?_map,hl]
 by_cases h:i < n*z.size
 ·have hm:i % z.size < z.size:=Nat.mod_lt _ hk
  rw [if_pos h,List.getElem?_range h]
  simp [hm]
 ·rw [if_neg h,List.getElem?_eq_none (by simpa using Nat.le_of_not_lt h)]
  rfl
def RowG (C:Cx) (env:Env) (w:World) (t:TypeId) (xs:List (C.S.El t)) (us:List Value): Prop :=
 us.length=xs.length*C.S.sz t∧∀i j,i < xs.length→Γ C.S env w ((C.S.cell t (xs.getD i (C.S.dflt t))).getD j .any) (us.getD (i*C.S.sz t+j) undef)
theorem RowG.cons (hS:SigOk C.S) {t:TypeId} {x:C.S.El t} {xs:List (C.S.El t)} {u us:List Value} (h:G2 C.S env w (C.S.cell t x) u) (k:RowG C env w t xs us): RowG C env w t (x::xs) (u ++ us):= by
 have hu:u.length=C.S.sz t:=by rw [h.1,hS.len]
 refine ⟨by simp [hu,k.1,Nat.add_mul];omega,fun i j hi=>?_⟩
 cases i with
 | zero =>
  simp only [List.getD_cons_zero,Nat.zero_mul,Nat.zero_add]
  by_cases hj:j < C.S.sz t
  ·have:=h.2 j
   rwa [show (u ++ us).getD j undef=u.getD j undef by simp [List.getD,List.getElem?_append,hu,hj]]
  ·have:(C.S.cell t x).getD j AV.any = .any:=by
    have:=hS.len t x
    generalize C.S.cell t x=cs at this ⊢
    rw [List.getD,List.getElem?_eq_none (by omega)];rfl
   rw [this];exact .any _
 | succ i =>
  simp only [List.getD_cons_succ]
  have:=k.2 i j (by simpa using hi)
  rwa [show (u ++ us).getD ((i+1)* C.S.sz t+j) undef=us.getD (i*C.S.sz t+j) undef by
   simp only [List.getD,List.getElem?_append,hu]
   rw [if_neg (by rw [Nat.add_mul];omega)]
   congr 2
   rw [Nat.add_mul];omega]
theorem decAll_sound (hS:SigOk C.S) {t:TypeId}: ∀(n:Nat) (cs:List (AV C.S.El)) (us:List Value) (xs:List (C.S.El t)),decAll C.S t (chunks (C.S.sz t) n cs)= some xs→cs.length=n*C.S.sz t→G2 C.S env w cs us→xs.length=n∧RowG C env w t xs us
 | 0,cs,us,xs,h,hl,hg=>by
  simp only [chunks,decAll,Option.some.injEq] at h
  subst h
  refine ⟨rfl,by rw [hg.1,hl];simp,fun i j hi=>by simp at hi⟩
 | n+1,cs,us,xs,h,hl,hg=>by
  simp only [chunks,decAll] at h
  split at h
  ·rename_i x xs' hx hxs
   cases h
   have h1:=hS.dec t _ x hx env w _ (hg.take (C.S.sz t))
   obtain ⟨h2,h3⟩:= decAll_sound hS n _ _ xs' hxs (by rw [List.length_drop,hl,Nat.add_mul];omega) (hg.drop (C.S.sz t))
   refine ⟨by simp [h2], ?_⟩
   have:=RowG.cons hS h1 h3
   rwa [List.take_append_drop] at this
  ·cases h
theorem over_len : ∀(xs cs:List (AV C.S.El)) (off:Nat),(over cs off xs).length=cs.length
 | [],cs,off=>rfl
 | x::xs,cs,off=>by rw [over,over_len xs,setN_eq,List.length_set]
theorem fillA_len (place:Nat→Option (Nat×Nat)): ∀(parts:List (Nat×AV C.S.El)) (cs ds:List (AV C.S.El)),fillA C.P place cs parts=some ds→ds.length=cs.length
 | [],cs,ds,h=>by simp only [fillA,Option.some.injEq] at h;rw [h]
 | (i,x):: parts,cs,ds,h=>by
  simp only [fillA] at h
  split at h
  ·obtain ⟨_,h⟩:= cond_some h
   rw [fillA_len place parts _ _ h,over_len]
  ·cases h
theorem buildSliceA_sound (hS:SigOk C.S) {t:TypeId} {len:Nat} {parts:Array (Nat×Operand)} {rho:Operand→AV C.S.El} {e:Operand→Value} {r:Sigma fun e=>List (C.S.El e)} (hr:buildSliceA C t len (parts.toList.map fun (i,x)=> (i,rho x))= some r)
  (h : ∀x,x∈parts.toList.map (·.2)→Γ C.S env w (rho x) (e x)):
  ∃us:Array Value,(Instr.buildSlice t len (parts.map fun (i,x)=> (i,e x))).run C.P w = .ok (.slice (some ⟨w.heap.size,0,none⟩) r.2.length r.2.length) (w.alloc (.cells us r.1))∧RowG C env w r.1 r.2 us.toList∧r.2.length=len∧len≤16777216:=by
 obtain ⟨hl,hp⟩:= parts_ok h
 unfold buildSliceA at hr
 split at hr
 ·cases hr
 ·rename_i el hel
  have hd:C.P.underlying t=some (.slice el):= by
   unfold elemT at hel
   split at hel
   ·cases hel;assumption
   ·cases hel
  split at hr
  ·cases hr
  ·rename_i z hz
   obtain ⟨zv,hzr,rfl,inf,hinf,_⟩:= zeroT_run hz
   obtain ⟨hc,hr⟩:= cond_some hr
   simp only [Bool.and_eq_true,Nat.ble_eq] at hc
   obtain ⟨⟨⟨hc1,hc2⟩,hc3⟩,hc4⟩:= hc
   have hsz:sizeT C.P el=inf.size:=by simp [sizeT,hinf]
   have hz2:=Nat.eq_of_beq_eq_true hc2
   have hz3:0 < zv.cells.size:=by simp only [List.length_map,Array.length_toList] at hc3;omega
   have hz4:=Nat.eq_of_beq_eq_true hc4
   have hzz:zv.cells.size=inf.size:=by rw [←hsz,←hz2];simp
   split at hr
   ·cases hr
   ·rename_i cs hf
    simp only [Option.map_eq_some_iff] at hr
    obtain ⟨xs,hx,rfl⟩:= hr
    rw [rep_map] at hf
    obtain ⟨us,hu,hg⟩:= fillA_sound (C:=C) (env:=env) (w:=w) _ _ _ _ _ (rep len zv.cells.toList).toArray hf (by simpa using G2.vmap _) hl hp
    have hcl:cs.length=len*C.S.sz el:=by
     rw [fillA_len _ _ _ _ hf,List.length_map,rep_len,←hz4,←hz2];simp
    rw [hz4] at hx
    obtain ⟨h1,h2⟩:= decAll_sound hS len cs us.toList xs hx hcl hg
    refine ⟨us, ?_,h2,h1,Nat.le_trans (Nat.le_mul_of_pos_right len (by omega)) hc1⟩
    have hu':Instr.fill (fun k=>some (k*inf.size,inf.size)) (rep len zv.cells.toList).toArray (List.map (fun x=>(x.fst,e x.snd)) parts.toList)= some us:=by rw [hsz] at hu;simpa using hu
    simp only [h1]
    have hb : ¬len*inf.size > 2 ^ 24:=by rw [hsz] at hc1;omega
    by_cases hz0:len*inf.size=0
    ·have hl0:len=0:=by
      rcases Nat.mul_eq_zero.1 hz0 with h | h
      ·exact h
      ·omega
     subst hl0
     simp only [rep] at hu'
     have e0 : ∀f:Nat→Value,Array.map f (Array.range 0)= #[]:= fun f=>Array.eq_empty_of_size_eq_zero (by simp)
     simp [e0,Instr.buildSlice,run_underlying hd,run_sizeOf hinf,hu',newRow]
    ·have hze:=zeros_eq zv.cells len inf.size hzz (by omega)
     simp [Instr.buildSlice,run_underlying hd,run_sizeOf hinf,hb,hz0,hzr,hze,hu',newRow]
end
end Go.Aw
end
section
/-
  Contracts of callees: own slices that are handed on are written no more; calls (own work).
-/
set_option linter.unusedSimpArgs false
set_option linter.unusedVariables false
namespace Go.Aw
open Go.RowKit
def Plain (P : Program) (f : FuncId): Prop := ∃fn,P.funcs[f]? = some fn∧(fn.name == "runtime.NumGoroutine")= false∧fn.body.isNone = false
def CtOk (C:Cx) (f:FuncId) (ct:Ct C.S.El): Prop :=
 ∀args ps r news,ct args=some (ps,r,news)→(∀p∈ps,p)→args.all (lt1 0)= true→∀(B:Nat) (env:Env) (w:World) (H:List (AObj C.S.El)) (vals:List Value),G2 C.S env w args vals→Inv C.S B env w H→
  Calls C.P f vals.toArray w fun e w' => ∃v env',e = .returned v∧Γ C.S env' w' (sh2 H.length r) v∧Inv C.S B env' w' (H ++ news)∧Ext B H.length env w env' w'∧Below w.heap.size w w'
def SumOk (P:Program) (S:Sig) (f:FuncId) (args:List (AV S.El)) (H:List (AObj S.El)) (ps:List Prop) (r:AV S.El) (H':List (AObj S.El)): Prop :=
 Plain P f∧((∀p∈ps,p)→∀(B:Nat) (env:Env) (w:World) (vals:List Value),G2 S env w args vals→Inv S B env w H→
  Calls P f vals.toArray w fun e w' => ∃v env',e = .returned v∧Γ S env' w' r v∧Inv S B env' w' H'∧Ext B H.length env w env' w'∧H.length≤H'.length)
structure CxOk (C:Cx): Prop where
 sig:SigOk C.S
 ct : ∀f ct,C.T f=some ct→CtOk C f ct
 plainT : ∀f ct,C.T f=some ct→Plain C.P f
 fn : ∀f fn,C.F f = some fn→C.P.funcs[f]? = some fn∧(fn.name == "runtime.NumGoroutine")= false
 mixed:C.P.follows .mixedOrders=true
 sum : ∀f args H ps r H',C.I f args H=some (ps,r,H')→SumOk C.P C.S f args H ps r H'
section
variable {C:Cx} {env:Env} {w:World} {B:Nat} {H:List (AObj C.S.El)}
theorem run_call {c:Call} {o:Oper} {e:Operand→Value} {x:Operand} {f:FuncId} {vs:Array Value} (ho:o.op = .call c) (hc:c.callee = .value x) (hx:e x = .func (.func f) #[] vs) (hp:Plain C.P f):
  (execOp e o).run C.P w = .ok (.enter f (c.args.map e ++ vs)) w:=by
 obtain ⟨fn,h1,h2,h3⟩:= hp
 have h2' : ¬fn.name = "runtime.NumGoroutine" := by simpa using h2
 have h3' : ¬fn.body=none:=by intro h;rw [h] at h3;cases h3
 simp [execOp,ho,resolve,hc,hx,Deferred.ofValue,invoke,callFunc,h1,h2',h3']
theorem G2.single {S:Sig} {env:Env} {w:World} {c:AV S.El} {v:Value} (h:Γ S env w c v): G2 S env w [c] [v]:= G2.nil.cons h
theorem G2.map_ops {S:Sig} {env:Env} {w:World} {rho:Operand→AV S.El} {e:Operand→Value}: ∀(l:List Operand),(∀x∈l,Γ S env w (rho x) (e x))→G2 S env w (l.map rho) (l.map e)
 | [],_ => .nil
 | x::l,h=>(G2.map_ops l fun y hy=>h y (by simp [hy])).cons (h x (by simp))
theorem obj_set (H:List (AObj C.S.El)) (i j:Nat) (o:AObj C.S.El) (hi:i < H.length): obj (setN H i o) j=if i=j then o else obj H j:=by
 simp only [obj_nth,setN_eq,List.getElem?_set]
 by_cases h:i=j
 ·subst h;simp [hi]
 ·simp [h]
theorem obj_lt {H:List (AObj C.S.El)} {i:Nat} (h:obj H i≠ .gone): i < H.length:=by
 rw [obj_nth] at h
 by_cases hl:i < H.length
 ·exact hl
 ·rw [List.getElem?_eq_none (by omega)] at h;exact absurd rfl h
theorem row_sl {env':Env} {t:TypeId} {xs:List (C.S.El t)} {u:Value} {ws:List Value} (h:OwnsR w B t (C.S.sz t) u xs.length ws) (hg : ∀i j,i < xs.length→j < C.S.sz t→Γ C.S env' w ((C.S.cell t (xs.getD i (C.S.dflt t))).getD j .any) (ws.getD (i*C.S.sz t+j) undef))
  (hS:SigOk C.S) (hp : ∀g k,blkV u=some g→env'.prot g k): Γ C.S env' w (.sl t xs false) u:=by
 obtain ⟨hl,h2⟩:= h
 rcases h2 with ⟨rfl,h0⟩| ⟨g,cap,cur,fz,bo,rfl,_,h4,h5,h6',h6,h7,_⟩
 ·have:xs=[]:= List.eq_nil_of_length_eq_zero h0
  subst this
  exact .slnil t false
 ·refine .sl t xs false g bo cap (fun k=>ws.getD k undef) (by simp) ⟨h5,by simp only [maxLen] at h6';omega⟩ (fun k hk=>⟨?_, ?_⟩) (fun i j hi=>?_)
  ·have hk':k < ws.length:=by omega
   simp only [World.cell?,h4]
   subst h7
   simp only [List.length_take,List.length_drop,Array.length_toList] at hk'
   have hk2:bo+k < cur.size:=by omega
   simp only [List.getD,List.getElem?_take]
   rw [if_pos hk,List.getElem?_drop]
   simp [hk2]
  ·exact hp g (bo+k) rfl
  ·by_cases hj:j < C.S.sz t
   ·exact hg i j hi hj
   ·have:(C.S.cell t (xs.getD i (C.S.dflt t))).getD j AV.any = .any:=by
     have:=hS.len t (xs.getD i (C.S.dflt t))
     generalize C.S.cell t (xs.getD i (C.S.dflt t))= cs at this ⊢
     rw [List.getD,List.getElem?_eq_none (by omega)];rfl
    rw [this];exact .any _
theorem freeze_one (hS:SigOk C.S) (hI:Inv C.S B env w H) (i:Nat): ∃env',env'.val=env.val∧Inv C.S B env' w (freeze1 H i)∧Ext B H.length env w env' w∧(freeze1 H i).length=H.length:=by
 unfold freeze1
 cases hobj:obj H i with
 | row t xs =>
  have hi:i < H.length:=obj_lt (by rw [hobj];simp)
  have ho:=hI.objs i
  rw [hobj] at ho
  obtain ⟨u,ws,h1,h2,h3⟩:= ho
  let env':Env:=⟨env.val,fun b o=>env.prot b o∨(blkV u=some b∧True)⟩
  have hBb : ∀b,blkV u=some b→B≤b∧b < w.heap.size:=by
   intro b hb
   refine ⟨?_,live_block hI h1 hb (by rw [hobj];rfl)⟩
   rcases h2.2 with ⟨e,_⟩| ⟨g,cap,cur,fz,bo,e,e2,_⟩
   ·rw [e] at hb;cases hb
   ·rw [e] at hb;cases hb;exact e2
  have hE:Ext B H.length env w env' w:=⟨Below.refl _ _,fun _ _ _ h=>h,fun _ _ h => .inl h,fun _ _ _=>rfl,fun b o h=>h.imp id fun h=>(hBb b h.1).1⟩
  refine ⟨env',rfl, ?_,hE,by show (setN H i _).length=_;rw [setN_eq,List.length_set]⟩
  show Inv C.S B env' w (setN H i (.frozen t xs))
  have hN : ∀i v,env.val i=some v→i < H.length:=hI.fresh
  refine ⟨fun j=>?_,fun j v b hl h4 h5 o hp=>?_,fun j k v v' b hl hl' h4 h5 h6 h7=>?_,fun b o hp=>?_,fun j v h=>by rw [setN_eq,List.length_set];exact hI.fresh j v h,fun g=>(hI.glob g).ext hE hN,hI.base⟩
  ·rw [obj_set _ _ _ _ hi]
   by_cases hij:i=j
   ·subst hij
    rw [if_pos rfl]
    exact ⟨u,h1,row_sl h2 (fun i j hi hj=>(h3 i j hi hj).ext hE hN) hS (fun g k hg => .inr ⟨hg,trivial⟩)⟩
   ·rw [if_neg hij]
    exact (hI.objs j).ext hE hN (fun _ _ _ _ _=>rfl)
  ·rw [obj_set _ _ _ _ hi] at hl
   by_cases hij:i=j
   ·subst hij;rw [if_pos rfl] at hl;cases hl
   ·rw [if_neg hij] at hl
    rcases hp with hp | ⟨hp,_⟩
    ·exact hI.free j v b hl h4 h5 o hp
    ·exact hij (hI.apart i j u v b (by rw [hobj];rfl) hl h1 h4 hp h5)
  ·rw [obj_set _ _ _ _ hi] at hl hl'
   split at hl
   ·cases hl
   ·split at hl'
    ·cases hl'
    ·exact hI.apart j k v v' b hl hl' h4 h5 h6 h7
  ·rcases hp with hp | ⟨hp,_⟩
   ·exact hI.inheap b o hp
   ·exact (hBb b hp).2
 | _=>exact ⟨env,rfl,hI,Ext.refl _ _ _ _,rfl⟩
theorem freeze1_obj (H:List (AObj C.S.El)) (i j:Nat): obj (freeze1 H i) j=if i=j then (match obj H j with | .row t xs => .frozen t xs | o=>o) else obj H j:=by
 unfold freeze1
 cases hobj:obj H i with
 | row t xs =>
  have hi:i < H.length:=obj_lt (by rw [hobj];simp)
  rw [obj_set _ _ _ _ hi]
  by_cases h:i=j
  ·subst h;simp [hobj]
  ·simp [h]
 | _ =>
  by_cases h:i=j
  ·subst h;simp [hobj]
  ·simp [h]
theorem freezeAll_deref : ∀(l:List Nat) (H:List (AObj C.S.El)) (x:AV C.S.El),deref (freezeAll H l) x=deref H x
 | [],H,x=>rfl
 | i::l,H,x=>by
  rw [freezeAll,List.foldl_cons]
  show deref (freezeAll (freeze1 H i) l) x=_
  rw [freezeAll_deref l]
  cases x <;> simp only [deref]
  rename_i j
  rw [freeze1_obj]
  by_cases h:i=j
  ·subst h;rw [if_pos rfl];cases obj H i <;> rfl
  ·rw [if_neg h]
theorem freezeAll_sound (hS:SigOk C.S): ∀(l:List Nat) (env:Env) (H:List (AObj C.S.El)),Inv C.S B env w H→∃env',env'.val=env.val∧Inv C.S B env' w (freezeAll H l)∧Ext B H.length env w env' w∧(freezeAll H l).length=H.length∧(∀i∈l,∀t xs,obj (freezeAll H l) i≠ .row t xs)
 | [],env,H,hI=>⟨env,rfl,hI,Ext.refl _ _ _ _,rfl,by simp⟩
 | i::l,env,H,hI=>by
  obtain ⟨e1,v1,I1,E1,l1⟩:= freeze_one hS hI i
  obtain ⟨e2,v2,I2,E2,l2,f2⟩:= freezeAll_sound hS l e1 (freeze1 H i) I1
  refine ⟨e2,v2.trans v1,I2,E1.trans (by rw [l1] at E2;exact E2),l2.trans l1,fun j hj t xs=>?_⟩
  rcases List.mem_cons.1 hj with rfl | hj
  ·show obj (freezeAll (freeze1 H j) l) j≠_
   have : ∀(l:List Nat) (H:List (AObj C.S.El)),(∀t xs,obj H j≠ .row t xs)→∀t xs,obj (freezeAll H l) j≠ .row t xs:=by
    intro l
    induction l with
    | nil=>exact fun H h=>h
    | cons k l ih =>
     intro H h
     refine ih _ (fun t xs=>?_)
     rw [freeze1_obj]
     split
     ·cases hobj:obj H j with
      | row t xs=>exact absurd hobj (h t xs)
      | _=>simp
     ·exact h t xs
   refine this l _ (fun t xs=>?_) t xs
   rw [freeze1_obj,if_pos rfl]
   cases obj H j <;> simp
  ·exact f2 j hj t xs
theorem deref_sound (hI:Inv C.S B env w H) {x:AV C.S.El} {v:Value} (hx:Γ C.S env w x v) (h : ∀i∈owns x,∀t xs,obj H i≠ .row t xs): Γ C.S env w (deref H x) v:=by
 cases x <;> simp only [deref] <;> try exact hx
 rename_i i
 cases hobj:obj H i with
 | row t xs=>exact absurd hobj (h i (by simp [owns]) t xs)
 | frozen t xs =>
  cases hx with | gs _ a n c hv =>
  have ho:=hI.objs i
  rw [hobj] at ho
  obtain ⟨u,h1,h2⟩:= ho
  rw [hv] at h1;cases h1
  exact h2
 | _=>exact .any _
theorem G2.map_av {S:Sig} {env:Env} {w:World} {f:AV S.El→AV S.El}: ∀(cs:List (AV S.El)) (vs:List Value),G2 S env w cs vs→(∀c∈cs,∀v,Γ S env w c v→Γ S env w (f c) v)→G2 S env w (cs.map f) vs
 | [],vs,h,_=>by simpa using h
 | c::cs,vs,h,hf=>by
  obtain ⟨u,us,rfl,h1,h2⟩:= h.uncons
  exact (G2.map_av cs us h2 fun c hc=>hf c (by simp [hc])).cons (hf c (by simp) u h1)
theorem deref1_sound (hI:Inv C.S B env w H) {x:AV C.S.El} {v:Value} (hx:Γ C.S env w x v) (h : ∀i∈owns1 x,∀t xs,obj H i≠ .row t xs): Γ C.S env w (deref1 H x) v:=by
 cases x
 case agg cs =>
  obtain ⟨vs,rfl,hvs⟩:= hx.unagg
  exact G2.agg (G2.map_av cs _ hvs fun c hc v hv=>deref_sound hI hv fun i hi=>h i (by simp only [owns1,List.mem_flatMap];exact ⟨c,hc,hi⟩))
 all_goals exact deref_sound hI hx (by simpa [owns1] using h)
theorem Γ.unfull {u:TypeId} {xs:List (C.S.El u)} {f:Bool} {v:Value} (h:Γ C.S env w (.sl u xs f) v): Γ C.S env w (.sl u xs false) v:=by
 cases h with
 | sl _ _ _ b off cap val hf hc hw h=>exact .sl u xs false b off cap val (by simp) hc hw h
 | slnil=>exact .slnil u false
 | slemp _ _ a cap hf=>exact .slemp u false a cap (by simp)
theorem norm0_sound (t:TypeId) {x:AV C.S.El} {v:Value} (h:Γ C.S env w x v): Γ C.S env w (norm0 C.P t x) v:=by
 unfold norm0
 split
 ·cases h.unv
  split
  ·exact .slnil _ _
  ·exact .v _
 ·exact h.unfull
 ·exact h
theorem normL_sound : ∀(ts:List TypeId) (cs:List (AV C.S.El)) (vs:List Value),G2 C.S env w cs vs→G2 C.S env w (normL C.P ts cs) vs
 | [],cs,vs,h=>by cases cs <;> simpa [normL] using h
 | t::ts,[],vs,h=>by simpa [normL] using h
 | t::ts,c::cs,vs,h=>by
  obtain ⟨u,us,rfl,h1,h2⟩:= h.uncons
  exact (normL_sound ts cs us h2).cons (norm0_sound t h1)
theorem nilA_sound (t:TypeId) {x:AV C.S.El} {v:Value} (h:Γ C.S env w x v): Γ C.S env w (nilA C.P t x) v:=by
 unfold nilA
 split
 ·split
  ·obtain ⟨vs,rfl,hvs⟩:= h.unagg
   exact G2.agg (normL_sound _ _ _ hvs)
  ·exact h
 ·exact norm0_sound t h
theorem nilAll_sound : ∀(ts:List TypeId) (cs:List (AV C.S.El)) (vs:List Value),G2 C.S env w cs vs→G2 C.S env w (nilAll C.P ts cs) vs
 | [],cs,vs,h=>by cases cs <;> simpa [nilAll] using h
 | t::ts,[],vs,h=>by simpa [nilAll] using h
 | t::ts,c::cs,vs,h=>by
  obtain ⟨u,us,rfl,h1,h2⟩:= h.uncons
  exact (nilAll_sound ts cs us h2).cons (nilA_sound t h1)
theorem args_sound (hS:SigOk C.S) (hI:Inv C.S B env w H) (c:Call) {args:List (AV C.S.El)} {vals:List Value} (hg:G2 C.S env w args vals):
  ∃env',env'.val=env.val∧Inv C.S B env' w (freezeAll H (args.flatMap owns1))∧Ext B H.length env w env' w∧(freezeAll H (args.flatMap owns1)).length=H.length∧G2 C.S env' w (argsA C.P c H args) vals:=by
 obtain ⟨env',h1,h2,h3,h4,h5⟩:= freezeAll_sound hS (args.flatMap owns1) env H hI
 refine ⟨env',h1,h2,h3,h4,nilAll_sound _ _ _ ?_⟩
 have e:args.map (deref1 H)= args.map (deref1 (freezeAll H (args.flatMap owns1))):= by
  refine List.map_congr_left fun x _=>?_
  have hd:deref (freezeAll H (args.flatMap owns1))= deref H:=funext fun x=>freezeAll_deref _ H x
  cases x <;> simp only [deref1,hd]
 rw [e]
 refine G2.map_av _ _ (hg.ext h3 hI.fresh) fun x hx v hv=>deref1_sound h2 hv fun i hi=>h5 i (List.mem_flatMap.2 ⟨x,hx,hi⟩)
theorem read_sl (hS:SigOk C.S) (hI:Inv C.S B env w H) {x:AV C.S.El} {v:Value} {u:TypeId} {ys:List (C.S.El u)} {f:Bool} (hd:deref H x = .sl u ys f) (hx:Γ C.S env w x v):
  ∃a cap news,v = .slice a ys.length cap∧RowG C env w u ys news∧(a=none→ys=[])∧(∀ad,a=some ad→∀k y,news[k]? = some y→w.cell? (ad.add k)= some y):= by
 have hsl : ∀{v:Value},Γ C.S env w (.sl u ys f) v→∃a cap news,v = .slice a ys.length cap∧RowG C env w u ys news∧(a=none→ys=[])∧(∀ad,a=some ad→∀k y,news[k]? = some y→w.cell? (ad.add k)= some y):= by
  intro v h
  cases h with
  | sl _ _ _ b off cap val hf hc hw hv =>
   refine ⟨_,cap,(List.range (ys.length*C.S.sz u)).map val,rfl,⟨by simp,fun i j hi=>?_⟩,by simp,fun ad ha k y hk=>?_⟩
   ·by_cases hj:j < C.S.sz u
    ·have hm:(i+1)* C.S.sz u≤ys.length*C.S.sz u:=Nat.mul_le_mul_right _ hi
     rw [Nat.add_mul,Nat.one_mul] at hm
     rw [show ((List.range (ys.length*C.S.sz u)).map val).getD (i*C.S.sz u+j) undef=val (i*C.S.sz u+j) by simp [List.getD,List.getElem?_range (show i*C.S.sz u+j < ys.length*C.S.sz u by omega)]]
     exact hv i j hi
    ·have:(C.S.cell u (ys.getD i (C.S.dflt u))).getD j AV.any = .any:=by
      have:=hS.len u (ys.getD i (C.S.dflt u))
      generalize C.S.cell u (ys.getD i (C.S.dflt u))= cs at this ⊢
      rw [List.getD,List.getElem?_eq_none (by omega)];rfl
     rw [this];exact .any _
   ·cases ha
    rw [Addr.add_lit]
    exact range_at (fun k hk=>(hw k hk).1) k y hk
  | slnil=>exact ⟨none,0,[],rfl,⟨by simp,fun i j hi=>by simp at hi⟩,fun _=>rfl,fun ad h=>by cases h⟩
  | slemp _ _ a cap hf=>exact ⟨_,cap,[],rfl,⟨by simp,fun i j hi=>by simp at hi⟩,fun h=>by simp at h,fun ad h k y hk=>by simp at hk⟩
 cases x <;> simp only [deref,reduceCtorEq] at hd
 case sl t xs full=>cases hd;exact hsl hx
 case gs i =>
  cases hx with | gs _ a n c hv =>
  have ho:=hI.objs i
  cases hobj:obj H i with
  | row t xs =>
   rw [hobj] at hd ho
   cases hd
   obtain ⟨u',ws,e1,e2,e3⟩:= ho
   rw [hv] at e1;cases e1
   have hr:RowG C env w u ys ws:=⟨e2.1,fun i j hi=>by
    by_cases hj:j < C.S.sz u
    ·exact e3 i j hi hj
    ·have:(C.S.cell u (ys.getD i (C.S.dflt u))).getD j AV.any = .any:=by
      have:=hS.len u (ys.getD i (C.S.dflt u))
      generalize C.S.cell u (ys.getD i (C.S.dflt u))= cs at this ⊢
      rw [List.getD,List.getElem?_eq_none (by omega)];rfl
     rw [this];exact .any _⟩
   rcases e2.2 with ⟨e4,e5⟩| ⟨g,cap',cur,fz,bo,e4,e5,e6,e7,e8,e9,e10,e11⟩
   ·cases e4
    have:ys=[]:= List.eq_nil_of_length_eq_zero e5
    subst this
    exact ⟨none,0,ws,rfl,hr,fun _=>rfl,fun ad h=>by cases h⟩
   ·cases e4
    refine ⟨_,_,ws,rfl,hr,by simp,fun ad ha k y hk=>?_⟩
    cases ha
    rw [Addr.add_lit]
    simp only [World.cell?,e6]
    subst e10
    rw [List.getElem?_take,List.getElem?_drop] at hk
    split at hk
    ·simpa using hk
    ·cases hk
  | frozen t xs =>
   rw [hobj] at hd ho
   obtain ⟨u',e1,e2⟩:= ho
   rw [hv] at e1;cases e1
   cases hd
   exact hsl e2
  | _=>rw [hobj] at hd;cases hd
theorem convS_sound (hS:SigOk C.S) (hI:Inv C.S B env w H) {src dst:TypeId} {ax r:AV C.S.El} {vx:Value} (h:convS C src dst H ax=some r) (hx:Γ C.S env w ax vx): ∃v,(convert src dst vx).run C.P w = .ok v w∧Γ C.S env w r v:=by
 unfold convS at h
 obtain ⟨hd,h⟩:= cond_some h
 split at h
 ·rename_i t xs g e hde hsrc
  split at h
  ·rename_i he
   simp only [Option.map_eq_some_iff] at h
   obtain ⟨f,hf,rfl⟩:= h
   obtain ⟨hz,hb⟩:= hS.ints t f hf
   obtain ⟨hl,hb⟩:= hb xs
   obtain ⟨a,cap,news,rfl,hrow,hn,hc⟩:= read_sl hS hI hde hx
   have hnews:news=(f xs).map (Value.int .u8):= by
    refine List.ext_getElem (by rw [List.length_map,hl,hrow.1,hz,Nat.mul_one]) fun i h1 h2=>?_
    have hi:i < xs.length:=by rw [List.length_map,hl] at h2;exact h2
    have:=hrow.2 i 0 hi
    rw [hb i hi,hz,Nat.mul_one,Nat.add_zero] at this
    have:=this.unv
    simp only [List.getD,List.getElem?_eq_getElem h1,Option.getD_some] at this
    rw [this,List.getElem_map]
    have h3:i < (f xs).length:=by omega
    simp [List.getD,h3]
   rw [run_convert_bytes_string w src dst e a xs.length cap hsrc he (isStr_run hd)]
   cases a with
   | none =>
    have:xs=[]:= hn rfl
    have hfx:f xs=[]:= List.eq_nil_of_length_eq_zero (by rw [hl,this];rfl)
    refine ⟨_,by simp [Conv.bytesToString];rfl, ?_⟩
    rw [hfx];exact .v _
   | some ad =>
    refine ⟨_,run_bytesToString w ad xs.length cap (f xs) ?_, .v _⟩
    have:=run_loadCells_list (P:=C.P) w ad ((f xs).map (Value.int .u8)) (fun k y hk=>hc ad rfl k y (by rw [hnews];exact hk))
    rw [List.length_map,hl] at this
    exact this
  ·cases h
 ·cases h
end
end Go.Aw
end
section
/-
  Every pure operation of the reckoner is the model's (own work).
-/
set_option linter.unusedSimpArgs false
set_option linter.unusedVariables false
namespace Go.Aw
open Go.RowKit
section
variable {C:Cx} {env:Env} {w:World} {B:Nat} {H:List (AObj C.S.El)}
theorem andThen_assoc' {α β γ:Type} (r:Result α) (f:α→World→Result β) (g:β→World→Result γ): (r.andThen f).andThen g=r.andThen fun a w=>(f a w).andThen g:=by cases r <;> rfl
theorem Γ.unGd {S:Sig} {env:Env} {w:World} {x:AV S.El} {v:Value} (h:Γ S env w x v) (hg : ∀g∈(Go.Aw.unGd x).1,g=true): Γ S env w (Go.Aw.unGd x).2 v:=by
 cases x <;> simp only [Go.Aw.unGd] at hg ⊢<;> try exact h
 cases h with | gd g x v h _=>exact h (hg _ (by simp))
theorem own1_gd {x:AV C.S.El}: (∀p∈own1 x,p) ↔ ∀g∈(unGd x).1,g=true:=by
 cases x <;> simp only [own1,unGd,List.mem_singleton,forall_eq,List.not_mem_nil,false_imp_iff,implies_true]
theorem own2_gd {q:Prop} {x:AV C.S.El}: (∀p∈own2 q x,p) ↔ (q→∀g∈(unGd x).1,g=true):= by
 cases x <;> simp only [own2,unGd,List.mem_singleton,forall_eq,List.not_mem_nil,false_imp_iff,implies_true]
theorem pickA_sound {c a b r:AV C.S.El} {vc va vb:Value} {ps:List Prop} (h:pickA c a b=some (ps,r)) (hp : ∀p∈ps,p) (hc:Γ C.S env w c vc) (ha:Γ C.S env w a va) (hb:Γ C.S env w b vb):
  ∃z:Bool,vc = .bool z∧Γ C.S env w r (if z then va else vb):= by
 unfold pickA at h
 split at h
 ·rename_i z p q hz hpp hq
  cases h
  simp only [List.mem_append,or_imp,forall_and] at hp
  obtain ⟨⟨p1,p2⟩,p3⟩:= hp
  have h1:=hc.unGd (own1_gd.1 p1)
  rw [hz] at h1
  cases h1.unv
  refine ⟨z,rfl, ?_⟩
  cases z
  ·have h2:=hb.unGd (own2_gd.1 p3 rfl)
   rw [hq] at h2
   cases h2.unv
   simpa using Γ.v (S:=C.S) _
  ·have h2:=ha.unGd (own2_gd.1 p2 rfl)
   rw [hpp] at h2
   cases h2.unv
   simpa using Γ.v (S:=C.S) _
 ·cases h
theorem targetOf_sound {rho:Operand→AV C.S.El} {e:Operand→Value} {c:Call} {f:FuncId} {args:List (AV C.S.El)} (h:targetOf rho c=some (f,args)) (hρ : ∀x∈c.operands.toList,Γ C.S env w (rho x) (e x)):
  ∃x vs,c.callee = .value x∧e x = .func (.func f) #[] vs∧G2 C.S env w args (c.args.map e ++ vs).toList:=by
 unfold targetOf at h
 split at h
 ·rename_i x hc
  split at h
  ·rename_i g cap hx
   cases h
   have h1:=hρ x (by simp [Call.operands,hc])
   rw [hx] at h1
   obtain ⟨vs,h2,h3⟩:= h1.unclo
   refine ⟨x,vs,hc,h2, ?_⟩
   have:=(G2.map_ops (S:=C.S) (env:=env) (w:=w) (rho:=rho) (e:=e) c.args.toList (fun y hy=>hρ y (by simp [Call.operands,hc];exact .inr (by simpa using hy)))).append h3
   simpa using this
  ·cases h
 ·cases h
theorem isScal2_sound {env':Env} {w':World} {r:AV C.S.El} {n:Nat} {v:Value} (hr:isScal2 r=true) (h:Γ C.S env w (sh2 n r) v): Γ C.S env' w' (sh2 n r) v:=by
 have s0 : ∀{x:AV C.S.El} {u:Value},isScal x=true→Γ C.S env w (sh n x) u→Γ C.S env' w' (sh n x) u:=by
  intro x u hx h
  cases x <;> simp only [isScal,Bool.false_eq_true] at hx
  simp only [sh] at h ⊢
  cases h.unv
  exact .v _
 have s1 : ∀{x:AV C.S.El} {u:Value},isScal1 x=true→Γ C.S env w (sh1 n x) u→Γ C.S env' w' (sh1 n x) u:=by
  intro x u hx h
  cases x
  case agg cs =>
   simp only [sh1] at h ⊢
   obtain ⟨vs,rfl,hvs⟩:= h.unagg
   refine G2.agg ⟨hvs.1,fun j=>?_⟩
   have:=hvs.2 j
   simp only [List.getD,List.getElem?_map] at this ⊢
   cases hc:cs[j]? with
   | none=>simpa using Γ.any (S:=C.S) _
   | some c =>
    rw [hc] at this
    exact s0 ((List.all_eq_true.1 hx) c (List.mem_of_getElem? hc)) this
  all_goals (simp only [isScal1,sh1] at hx h ⊢;exact s0 hx h)
 cases r
 case tup cs =>
  simp only [sh2] at h ⊢
  obtain ⟨vs,rfl,hvs⟩:= h.untup
  refine .tup _ _ (by simpa using hvs.1) fun j=>?_
  have:=hvs.2 j
  simp only [List.getD,List.getElem?_map] at this ⊢
  cases hc:cs[j]? with
  | none=>simpa using Γ.any (S:=C.S) _
  | some c =>
   rw [hc] at this
   exact s1 ((List.all_eq_true.1 hr) c (List.mem_of_getElem? hc)) this
 all_goals (simp only [isScal2,sh2] at hr h ⊢;exact s1 hr h)
theorem Γ.lt2n (hS:SigOk C.S) {env':Env} {n:Nat} (hv : ∀i v,i < n→env.val i=some v→env'.val i=some v) (hp : ∀b o,env.prot b o→env'.prot b o) {x:AV C.S.El} {v:Value} (h:Γ C.S env w x v) (hl:Go.Aw.lt2 n x=true): Γ C.S env' w x v:=by
 have h0 : ∀{x:AV C.S.El} {v:Value},Γ C.S env w x v→Go.Aw.lt0 n x=true→Γ C.S env' w x v:=fun h hl=>Γ.lt0 hS hv (fun b o hpp=>⟨hp b o hpp,rfl⟩) h hl
 have hl0 : ∀{cs:List (AV C.S.El)} {vs:List Value},G2 C.S env w cs vs→cs.all (Go.Aw.lt0 n)= true→G2 C.S env' w cs vs:=by
  intro cs vs hg ha
  refine ⟨hg.1,fun j=>?_⟩
  have:=hg.2 j
  simp only [List.getD] at this ⊢
  cases hc:cs[j]? with
  | none=>simpa using Γ.any (S:=C.S) _
  | some c=>rw [hc] at this;exact h0 this ((List.all_eq_true.1 ha) c (List.mem_of_getElem? hc))
 have h1 : ∀{x:AV C.S.El} {v:Value},Γ C.S env w x v→Go.Aw.lt1 n x=true→Γ C.S env' w x v:=by
  intro x v h hl
  cases x
  case agg cs =>
   obtain ⟨vs,rfl,hvs⟩:= h.unagg
   exact G2.agg (hl0 hvs hl)
  case clo f cs =>
   obtain ⟨vs,rfl,hvs⟩:= h.unclo
   have:=hl0 hvs hl
   exact .clo f cs vs (by simpa using this.1) this.2
  all_goals (simp only [Go.Aw.lt1] at hl;exact h0 h hl)
 cases x
 case tup cs =>
  obtain ⟨vs,rfl,hvs⟩:= h.untup
  refine .tup cs vs (by simpa using hvs.1) fun j=>?_
  have:=hvs.2 j
  simp only [List.getD] at this ⊢
  cases hc:cs[j]? with
  | none=>simpa using Γ.any (S:=C.S) _
  | some c=>rw [hc] at this;exact h1 this ((List.all_eq_true.1 hl) c (List.mem_of_getElem? hc))
 case gd g x =>
  cases h with | gd _ _ _ k1 k2=>exact .gd g x v (fun hg=>h1 (k1 hg) hl) k2
 all_goals (simp only [Go.Aw.lt2] at hl;exact h1 h hl)
theorem Γ.lt2' (hS:SigOk C.S) {env2:Env} {w':World} {val:Nat→Option Value} {x:AV C.S.El} {v:Value} (h:Γ C.S env2 w' x v) (hl:Go.Aw.lt2 0 x=true): Γ C.S ⟨val,env2.prot⟩ w' x v :=
 Γ.lt2n (env:=env2) (env':=⟨val,env2.prot⟩) hS (n:=0) (fun i v hi=>by omega) (fun _ _ h=>h) h hl
theorem val_same (hS:SigOk C.S) (hI:Inv C.S B env w H) {env2:Env} {w':World} (hI2:Inv C.S B env2 w' H) (hE:Ext B H.length env w env2 w') (hbel:Below w.heap.size w w') {x:AV C.S.El} {v:Value} (hl:lt2 0 x=true) (hx:Γ C.S env2 w' x v): PureR C B env w H x v w':=by
 have hE4:Ext B H.length env w ⟨env.val,env2.prot⟩ w':=⟨hE.below,fun _ _ _ h=>h,hE.prot,hE.keep,hE.newp⟩
 refine ⟨⟨env.val,env2.prot⟩,rfl,Γ.lt2' hS hx hl,hI.ext hE4 (fun _ _ h=>h) (fun i u b e1 e2 e3=>hbel.block b (live_block hI e1 e2 e3)) (fun i u b o e1 e2 e3 hp=>?_) (fun b o hp=>hI2.inheap b o hp),hE4⟩
 exact absurd hp (hI2.free i u b e1 (hE.val i u (hI.fresh i u e2) e2) e3 o)
theorem Inv.below {w':World} (hI:Inv C.S B env w H) (h:Below w.heap.size w w'): Inv C.S B env w' H∧Ext B H.length env w env w':=by
 have hE:Ext B H.length env w env w':=⟨h.mono hI.base,fun _ _ _ h=>h,fun _ _ h=>h,fun b o hp=>h.block b (hI.inheap b o hp),fun _ _ h => .inl h⟩
 exact ⟨hI.ext hE (fun _ _ h=>h) (fun i u b h1 h2 h3=>h.block b (live_block hI h1 h2 h3)) (fun _ _ _ _ _ _ _ h=>h) (fun b o hp=>Nat.lt_of_lt_of_le (hI.inheap b o hp) h.size),hE⟩
theorem evP_sound (hC:CxOk C) (hI:Inv C.S B env w H) {o:Oper} {a:Act} {rho:Operand→AV C.S.El} (hρ : ∀x∈o.op.operands.toList,Γ C.S env w (rho x) (a.eval x)) {ps:List Prop} {r:AV C.S.El}
  (h:evP C o rho H=some (ps,r)) (hp : ∀p∈ps,p): Does C.P o a w (PureR C B env w H r):= by
 have hS:=hC.sig
 unfold evP at h
 cases hop:o.op <;> rw [hop] at h hρ <;> simp only [reduceCtorEq] at h
 case move x =>
  cases h
  exact does_value (by simp [execOp,hop]) (.same hI (hρ x (by simp [Op.operands])))
 case assign x =>
  cases h
  exact does_value (by simp [execOp,hop]) (.same hI (hρ x (by simp [Op.operands])))
 case pick c x y =>
  obtain ⟨z,hz,hr⟩:= pickA_sound h hp (hρ c (by simp [Op.operands])) (hρ x (by simp [Op.operands])) (hρ y (by simp [Op.operands]))
  refine does_value (v:=if z then a.eval x else a.eval y) ?_ (.same hI hr)
  simp [execOp,hop,hz,asBool]
 case build t parts =>
  simp only [Option.map_eq_some_iff] at h
  obtain ⟨y,hy,h⟩:= h
  cases h
  obtain ⟨v,hv,hr⟩:= buildA_sound (e:=a.eval) hy (fun x hx=>hρ x (by simpa [Op.operands] using hx))
  refine does_value (v:=v) ?_ (.same hI hr)
  have hv':(Instr.build t (parts.map fun x=>(x.1,a.eval x.2))).run C.P w = .ok v w:=by simpa using hv
  simp [execOp,hop,hv']
 case load t x =>
  obtain ⟨v,hv,hr⟩:= loadA_sound hS hI h hp (hρ x (by simp [Op.operands]))
  exact does_value (v:=v) (by simp [execOp,hop,hv]) (.same hI hr)
 case nilCheck x =>
  have hx:=hρ x (by simp [Op.operands])
  split at h
  ·rename_i i off he
   cases h
   rw [he] at hx
   generalize hv:a.eval x=va at hx
   cases hx with | ref _ _ b hb =>
   exact does_value (by simp [execOp,hop,hv]) (.same hI (.ref i off b hb))
  ·rename_i t x' off he
   cases h
   rw [he] at hx
   generalize hv:a.eval x=va at hx
   cases hx with | rp _ _ _ b o' val hw hh =>
   exact does_value (by simp [execOp,hop,hv]) (.same hI (.rp t x' off b o' val hw hh))
  ·rename_i t i j off he
   cases h
   rw [he] at hx
   generalize hv:a.eval x=va at hx
   cases hx with | rg _ _ _ _ b n cap bo hb =>
   exact does_value (by simp [execOp,hop,hv]) (.same hI (.rg t i j off b n cap bo hb))
  ·rename_i f c he
   cases h
   rw [he] at hx
   generalize hv:a.eval x=va at hx
   obtain ⟨vs,rfl,h2⟩:= hx.unclo
   exact does_value (by simp [execOp,hop,hv]) (.same hI (.clo f c vs (by simpa using h2.1) h2.2))
  ·cases h
 case binOp op t x y yt =>
  obtain ⟨v,hv,hr⟩:= binA_sound (x:=x) (y:=y) h hp (hρ x (by simp [Op.operands])) (hρ y (by simp [Op.operands]))
  refine does_value (v:=v) ?_ (.same hI hr)
  have hv':=congrArg (fun r=>Result.andThen r (fun (u:Value) w'=>Result.ok (Next.value u) w')) hv
  simp only [Sem.run_bind,andThen_assoc'] at hv'
  simp only [execOp,hop]
  simpa using hv'
 case unOp op t x =>
  simp only [Option.map_eq_some_iff] at h
  obtain ⟨y,hy,h⟩:= h
  cases h
  obtain ⟨v,hv,hr⟩:= unA_sound hy (hρ x (by simp [Op.operands]))
  exact does_value (v:=v) (by simp [execOp,hop,hv]) (.same hI hr)
 case convert s d x =>
  split at h
  ·rename_i y hy
   cases h
   obtain ⟨v,w',hv,hr⟩:= convA_sound hS hI hy (hρ x (by simp [Op.operands]))
   exact does_value (v:=v) (by simp [execOp,hop,hv]) hr
  ·simp only [Option.map_eq_some_iff] at h
   obtain ⟨y,hy,h⟩:= h
   cases h
   obtain ⟨v,hv,hr⟩:= convS_sound hS hI hy (hρ x (by simp [Op.operands]))
   exact does_value (v:=v) (by simp [execOp,hop,hv]) (.same hI hr)
 case fieldAddr t x f =>
  simp only [Option.map_eq_some_iff] at h
  obtain ⟨y,hy,h⟩:= h
  cases h
  obtain ⟨v,hv,hr⟩:= fieldAddrA_sound hy (hρ x (by simp [Op.operands]))
  exact does_value (v:=v) (by simp [execOp,hop,hv]) (.same hI hr)
 case field t x f =>
  simp only [Option.map_eq_some_iff] at h
  obtain ⟨y,hy,h⟩:= h
  cases h
  obtain ⟨v,hv,hr⟩:= fieldA_sound hy (hρ x (by simp [Op.operands]))
  exact does_value (v:=v) (by simp [execOp,hop,hv]) (.same hI hr)
 case indexAddr t x i =>
  obtain ⟨v,hv,hr⟩:= indexAddrA_sound hS hI h hp (hρ x (by simp [Op.operands])) (hρ i (by simp [Op.operands]))
  exact does_value (v:=v) (by simp [execOp,hop,hv]) (.same hI hr)
 case index t x i =>
  obtain ⟨v,hv,hr⟩:= indexA_sound h hp (hρ x (by simp [Op.operands])) (hρ i (by simp [Op.operands]))
  exact does_value (v:=v) (by simp [execOp,hop,hv]) (.same hI hr)
 case slice t x lo hi mx =>
  obtain ⟨v,hv,hr⟩:= sliceA_sound (lo:=lo.map a.eval) (hi:=hi.map a.eval) (mx:=mx.map a.eval) hS h hp (hρ x (by simp [Op.operands]))
   (fun y hy=>by
    obtain ⟨z,hz,rfl⟩:= Option.map_eq_some_iff.1 hy
    exact ⟨a.eval z,by rw [hz];rfl,hρ z (by simp [Op.operands,hz])⟩) (fun h=>by cases lo <;> simp_all)
   (fun y hy=>by
    obtain ⟨z,hz,rfl⟩:= Option.map_eq_some_iff.1 hy
    exact ⟨a.eval z,by rw [hz];rfl,hρ z (by simp [Op.operands,hz])⟩) (fun h=>by cases hi <;> simp_all)
   (fun y hy=>by
    obtain ⟨z,hz,rfl⟩:= Option.map_eq_some_iff.1 hy
    exact ⟨a.eval z,by rw [hz];rfl,hρ z (by simp [Op.operands,hz])⟩) (fun h=>by cases mx <;> simp_all)
  exact does_value (v:=v) (by simp [execOp,hop,hv]) (.same hI hr)
 case extract x i =>
  have hx:=hρ x (by simp [Op.operands])
  split at h
  ·rename_i vs he
   simp only [Option.map_eq_some_iff,nth_eq] at h
   obtain ⟨y,hy,h⟩:= h
   cases h
   rw [he] at hx
   obtain ⟨us,hu,hus⟩:= hx.untup
   obtain ⟨v,hv,hr⟩:= hus.get hy
   have hv':us[i]? = some v:=by simpa using hv
   exact does_value (v:=v) (by simp [execOp,hop,hu,Instr.extract,hv']) (.same hI hr)
  ·cases h
 case makeFunc fn first cap =>
  cases fn <;> simp only [reduceCtorEq] at h
  rename_i f
  obtain ⟨hf,h⟩:= cond_some h
  cases h
  have hf':first = #[]:= by simpa using hf
  subst hf'
  have hg:=G2.map_ops (S:=C.S) (env:=env) (w:=w) (rho:=rho) (e:=a.eval) cap.toList (fun y hy=>hρ y (by simpa [Op.operands] using hy))
  refine does_value (v:=.func (.func f) #[] (cap.map a.eval)) (by simp [execOp,hop,Instr.makeFunc]) (.same hI (.clo f _ _ (by simp) (by simpa using hg.2)))
 case call c =>
  split at h
  ·rename_i hc
   split at h
   ·rename_i x t hx ht
    simp only [Option.map_eq_some_iff] at h
    obtain ⟨y,hy,h⟩:= h
    cases h
    have hx':c.args = #[x]:= by apply Array.ext';simpa using hx
    have ht':c.argTypes = #[t]:= by apply Array.ext';simpa using ht
    obtain ⟨v,hv,hr⟩:= lenA_sound (ty:=o.type) hI hy (hρ x (by simp [Op.operands,Call.operands,hc,hx']))
    refine does_value (v:=v) ?_ (.same hI hr)
    simp [execOp,hop,resolve,hc,hx',ht',invoke,builtin,hv]
   ·cases h
  ·rename_i hc
   simp only [Option.map_eq_some_iff] at h
   obtain ⟨y,hy,h⟩:= h
   cases h
   unfold mmA at hy
   split at hy
   ·rename_i k i rest hargs
    have hg:=G2.map_ops (S:=C.S) (env:=env) (w:=w) (rho:=rho) (e:=a.eval) c.args.toList (fun y hy=>hρ y (by simp [Op.operands,Call.operands,hc];simpa using hy))
    rw [hargs] at hg
    obtain ⟨u,us,he,h1,h2⟩:= hg.uncons
    cases h1.unv
    obtain ⟨v,hv,hr⟩:= foldMM_min rest i us _ hy h2
    refine does_value (v:=v) ?_ (.same hI hr)
    have he':(c.args.map a.eval).toList = .int k i::us:=by simpa using he
    simp [execOp,hop,resolve,hc,invoke,builtin,Builtin.min_,he,hv]
   ·cases hy
  ·rename_i hc
   simp only [Option.map_eq_some_iff] at h
   obtain ⟨y,hy,h⟩:= h
   cases h
   unfold mmA at hy
   split at hy
   ·rename_i k i rest hargs
    have hg:=G2.map_ops (S:=C.S) (env:=env) (w:=w) (rho:=rho) (e:=a.eval) c.args.toList (fun y hy=>hρ y (by simp [Op.operands,Call.operands,hc];simpa using hy))
    rw [hargs] at hg
    obtain ⟨u,us,he,h1,h2⟩:= hg.uncons
    cases h1.unv
    obtain ⟨v,hv,hr⟩:= foldMM_max rest i us _ hy h2
    refine does_value (v:=v) ?_ (.same hI hr)
    simp [execOp,hop,resolve,hc,invoke,builtin,Builtin.max_,he,hv]
   ·cases hy
  ·rename_i x0 hc
   split at h
   ·rename_i f args ht
    split at h
    ·rename_i ct hT
     split at h
     ·rename_i ps' r' hct
      obtain ⟨hb,h⟩:= cond_some h
      cases h
      simp only [Bool.and_eq_true,Bool.or_eq_true] at hb
      obtain ⟨x,vs,hc2,hx,hg⟩:= targetOf_sound (e:=a.eval) (env:=env) (w:=w) ht (fun y hy=>hρ y (by simpa [Op.operands] using hy))
      have hrun:=run_call (C:=C) (w:=w) (o:=o) (e:=a.eval) hop hc2 hx (hC.plainT f ct hT)
      obtain ⟨env1,v1,I1,E1,l1,g1⟩:= args_sound hS hI c hg
      have hcall:=hC.ct f ct hT _ _ _ _ hct hp hb.1 B env1 w _ _ g1 I1
      unfold Does
      rw [hrun]
      simp only [Array.toArray_toList] at hcall
      refine hcall.mono fun e w' ⟨v,env2,he,hΓ,hI2,hE2,hbel⟩=> ⟨v,he, ?_⟩
      rw [l1] at hΓ hE2
      rcases hb.2.1 with hs | hs
      ·obtain ⟨i3,e3⟩:= hI.below hbel
       exact ⟨env,rfl,isScal2_sound hs hΓ,i3,e3⟩
      ·have hnil:args.flatMap owns1=[]:= by simpa using hs
       rw [hnil] at hI2
       simp only [freezeAll,List.foldl_nil,List.append_nil] at hI2
       exact val_same hS hI hI2 (E1.trans hE2) hbel hb.2.2 hΓ
     ·cases h
    ·cases h
   ·cases h
  ·cases h
end
end Go.Aw
end
section
/-
  Operations that make or write own things (own work).
-/
set_option linter.unusedSimpArgs false
set_option linter.unusedVariables false
namespace Go.Aw
open Go.RowKit
section
variable {C:Cx} {env:Env} {w:World} {B:Nat} {H:List (AObj C.S.El)}
def ImpR (C:Cx) (B:Nat) (env:Env) (w:World) (N:Nat) (x:AV C.S.El) (H':List (AObj C.S.El)) (v:Value) (w':World): Prop :=
 ∃env',Γ C.S env' w' x v∧Inv C.S B env' w' H'∧Ext B N env w env' w'
theorem one_cell {S:Sig} {env:Env} {w:World} {x:AV S.El} {v:Value} (h:one x=true) (hx:Γ S env w x v): v.oneCell'=true:=by
 cases hx <;> simp only [one,Bool.false_eq_true] at h <;> try rfl
 revert h
 cases v <;> simp [one,Value.oneCell']
theorem ones_cell {S:Sig} {env:Env} {w:World}: ∀(cs:List (AV S.El)) (vs:List Value),cs.all one=true→G2 S env w cs vs→∀v∈vs,v.oneCell'=true
 | [],vs,_,h=>by
  have:vs=[]:= List.eq_nil_of_length_eq_zero h.1
  subst this;simp
 | c::cs,vs,hc,h=>by
  obtain ⟨u,us,rfl,h1,h2⟩:= h.uncons
  simp only [List.all_cons,Bool.and_eq_true] at hc
  intro v hv
  rcases List.mem_cons.1 hv with rfl | hv
  ·exact one_cell hc.1 h1
  ·exact ones_cell cs us hc.2 h2 v hv
theorem push_obj (hI:Inv C.S B env w H) {w':World} {u:Value} {o:AObj C.S.El} (hB:Below B w w') (hkeep : ∀b k,env.prot b k→w'.heap[b]? = w.heap[b]?)
  (hblk : ∀i v b,env.val i=some v→blkV v=some b→live (obj H i)= true→w'.heap[b]? = w.heap[b]?)
  (hnew : ∀b,blkV u=some b→live o=true→(∀k,¬env.prot b k)∧∀i v,live (obj H i)= true→env.val i=some v→blkV v≠some b)
  (hok:ObjOk C.S ⟨fun i=>if i=H.length then some u else env.val i,env.prot⟩ w' B (some u) o):
  Inv C.S B ⟨fun i=>if i=H.length then some u else env.val i,env.prot⟩ w' (H ++ [o])∧Ext B H.length env w ⟨fun i=>if i=H.length then some u else env.val i,env.prot⟩ w':=by
 have hN : ∀i v,env.val i=some v→i < H.length:=hI.fresh
 have hE:Ext B H.length env w ⟨fun i=>if i=H.length then some u else env.val i,env.prot⟩ w' :=
  ⟨hB,fun i v hi h=>by simp only;rw [if_neg (by omega)];exact h,fun _ _ h=>h,hkeep,fun _ _ h => .inl h⟩
 have ho : ∀i,obj (H ++ [o]) i=if i=H.length then o else obj H i:=by
  intro i
  simp only [obj_nth,List.getElem?_append]
  by_cases h1:i < H.length
  ·rw [if_pos h1,if_neg (by omega)]
  ·rw [if_neg h1]
   by_cases h2:i=H.length
   ·subst h2;simp
   ·rw [if_neg h2,List.getElem?_eq_none (by simp;omega),List.getElem?_eq_none (by omega)]
 refine ⟨⟨fun i=>?_,fun i v b hl h1 h2 k hp=>?_,fun i j v v' b hl hl' h1 h2 h3 h4=>?_,fun b k hp=>Nat.lt_of_lt_of_le (hI.inheap b k hp) hB.size,fun i v h=>?_,fun g=>(hI.glob g).ext hE hN,Nat.le_trans hI.base hB.size⟩,hE⟩
 ·rw [ho]
  by_cases h:i=H.length
  ·simp only [h,if_true];exact hok
  ·simp only [if_neg h]
   exact (hI.objs i).ext hE hN (fun v b h1 h2 h3=>hblk i v b h1 h2 h3)
 ·rw [ho] at hl
  by_cases h:i=H.length
  ·simp only [if_pos h] at hl h1
   cases h1
   exact (hnew b h2 hl).1 k hp
  ·simp only [if_neg h] at hl h1
   exact hI.free i v b hl h1 h2 k hp
 ·rw [ho] at hl hl'
  by_cases h:i=H.length <;> by_cases h':j=H.length
  ·omega
  ·simp only [if_pos h] at hl h1
   simp only [if_neg h'] at hl' h2
   cases h1
   exact absurd h4 ((hnew b h3 hl).2 j v' hl' h2)
  ·simp only [if_neg h] at hl h1
   simp only [if_pos h'] at hl' h2
   cases h2
   exact absurd h3 ((hnew b h4 hl').2 i v hl h1)
  ·simp only [if_neg h] at hl h1
   simp only [if_neg h'] at hl' h2
   exact hI.apart i j v v' b hl hl' h1 h2 h3 h4
 ·simp only at h
  by_cases h':i=H.length
  ·simp [h']
  ·rw [if_neg h'] at h;have:=hN i v h;simp;omega
theorem push_new (hI:Inv C.S B env w H) {w':World} {ob:Obj} {u:Value} {o:AObj C.S.El} (h1:OneMore w w' ob) (hu : ∀b,blkV u=some b→b=w.heap.size)
  (hok:ObjOk C.S ⟨fun i=>if i=H.length then some u else env.val i,env.prot⟩ w' B (some u) o):
  Inv C.S B ⟨fun i=>if i=H.length then some u else env.val i,env.prot⟩ w' (H ++ [o])∧Ext B H.length env w ⟨fun i=>if i=H.length then some u else env.val i,env.prot⟩ w' :=
 push_obj hI (h1.below.mono hI.base) (fun b k hp=>h1.below.block b (hI.inheap b k hp)) (fun i v b h2 h3 h4=>h1.below.block b (live_block hI h2 h3 h4))
  (fun b hb _=>by
   have:=hu b hb
   subst this
   exact ⟨fun k hp=>absurd (hI.inheap _ k hp) (by omega),fun i v h2 h3 h4=>absurd (live_block hI h3 h4 h2) (by omega)⟩) hok
theorem push_ext (hI:Inv C.S B env w H) {env':Env} {w':World} (hE:Ext B H.length env w env' w') {cs:List (AV C.S.El)} {vs:List Value} (h:G2 C.S env w cs vs): G2 C.S env' w' cs vs:=h.ext hE hI.fresh
theorem Inv.forget (hI:Inv C.S B env w H) (i:Nat): Inv C.S B env w (setN H i .gone):= by
 have ho : ∀j,obj (setN H i .gone) j=if i=j then .gone else obj H j:=by
  intro j
  by_cases hi:i < H.length
  ·exact obj_set H i j .gone hi
  ·have:setN H i AObj.gone=H:=by rw [setN_eq,List.set_eq_of_length_le (by omega)]
   rw [this]
   by_cases h:i=j
   ·subst h;rw [if_pos rfl,obj_nth,List.getElem?_eq_none (by omega)];rfl
   ·rw [if_neg h]
 have hl : ∀j,live (obj (setN H i .gone) j)= true→live (obj H j)= true∧i≠j:=by
  intro j h
  rw [ho] at h
  by_cases h':i=j
  ·rw [if_pos h'] at h;cases h
  ·rw [if_neg h'] at h;exact ⟨h,h'⟩
 refine ⟨fun j=>?_,fun j v b h1 h2 h3 k hp=>hI.free j v b (hl j h1).1 h2 h3 k hp,fun j k u v b h1 h2 h3 h4 h5 h6=>hI.apart j k u v b (hl j h1).1 (hl k h2).1 h3 h4 h5 h6,hI.inheap,fun j v h=>by rw [setN_eq,List.length_set];exact hI.fresh j v h,hI.glob,hI.base⟩
 rw [ho]
 by_cases h:i=j
 ·rw [if_pos h];trivial
 ·rw [if_neg h];exact hI.objs j
theorem set_obj (hI:Inv C.S B env w H) {i:Nat} {u:Value} {b:Nat} {w':World} {o:AObj C.S.El} (hv:env.val i=some u) (hb:blkV u=some b) (hl:live (obj H i)= true) (hB:Below B w w')
  (hoth : ∀k,k≠b→w'.heap[k]? = w.heap[k]?) (hok:Ext B H.length env w env w'→ObjOk C.S env w' B (some u) o) (hlo:live o=true): Inv C.S B env w' (setN H i o)∧Ext B H.length env w env w':=by
 have hN : ∀i v,env.val i=some v→i < H.length:=hI.fresh
 have hE:Ext B H.length env w env w':=⟨hB,fun _ _ _ h=>h,fun _ _ h=>h,fun c k hp=>by
  have:c≠b:=fun h=>by subst h;exact hI.free i u c hl hv hb k hp
  exact hoth c this,fun _ _ h => .inl h⟩
 have ho:=fun j=>obj_set H i j o (hN i u hv)
 refine ⟨⟨fun j=>?_,fun j v c h1 h2 h3 k hp=>?_,fun j k v v' c h1 h2 h3 h4 h5 h6=>?_,fun c k hp=>Nat.lt_of_lt_of_le (hI.inheap c k hp) hB.size,fun j v h=>by rw [setN_eq,List.length_set];exact hN j v h,fun g=>(hI.glob g).ext hE hN,Nat.le_trans hI.base hB.size⟩,hE⟩
 ·rw [ho]
  by_cases h:i=j
  ·subst h;rw [if_pos rfl,hv];exact hok hE
  ·rw [if_neg h]
   refine (hI.objs j).ext hE hN (fun v c h1 h2 h3=>hoth c fun hc=>?_)
   subst hc
   exact h (hI.apart i j u v c hl h3 hv h1 hb h2)
 ·rw [ho] at h1
  by_cases h:i=j
  ·subst h;exact hI.free i v c hl h2 h3 k hp
  ·rw [if_neg h] at h1;exact hI.free j v c h1 h2 h3 k hp
 ·have e : ∀j,live (obj (setN H i o) j)= true→live (obj H j)= true:=by
   intro j hj
   rw [ho] at hj
   by_cases h:i=j
   ·subst h;exact hl
   ·rw [if_neg h] at hj;exact hj
  exact hI.apart j k v v' c (e j h1) (e k h2) h3 h4 h5 h6
theorem overL {cs new:List (AV C.S.El)} {us vs:List Value} {off:Nat} (hg:G2 C.S env w cs us) (hn:G2 C.S env w new vs) (hle:off+new.length≤cs.length):
  G2 C.S env w (over cs off new) (us.take off ++ vs ++ us.drop (off+vs.length)):= by
 induction new generalizing cs us off vs with
 | nil =>
  have:vs=[]:= List.eq_nil_of_length_eq_zero hn.1
  subst this
  simpa [over,List.take_append_drop] using hg
 | cons x new ih =>
  obtain ⟨v,vs',rfl,h1,h2⟩:= hn.uncons
  simp only [List.length_cons] at hle
  have hl:=hg.1
  have hset:G2 C.S env w (cs.set off x) (us.set off v):= by
   refine ⟨by simp [hl],fun j=>?_⟩
   have hj:=hg.2 j
   simp only [List.getD,List.getElem?_set] at hj ⊢
   by_cases h:off=j
   ·subst h
    rw [if_pos rfl,if_pos rfl,if_pos (by omega),if_pos (by omega)];simpa using h1
   ·rw [if_neg h,if_neg h];exact hj
  have:=ih hset h2 (off:=off+1) (by simp;omega)
  rw [over,setN_eq]
  have hlt:off < us.length:=by omega
  have hA:(us.take off).length=off:=by simp;omega
  have e:(us.set off v).take (off+1)++ vs' ++ (us.set off v).drop (off+1+vs'.length)= us.take off ++ (v::vs')++ us.drop (off+(v::vs').length):= by
   have e1:(us.set off v).take (off+1)= us.take off ++ [v]:= by
    rw [List.take_set,List.take_succ_eq_append_getElem hlt,List.set_append_right _ _ (by omega),hA]
    simp
   have e2:(us.set off v).drop (off+1+vs'.length)= us.drop (off+(v::vs').length):= by
    rw [List.drop_set_of_lt (by omega)]
    congr 1
    simp;omega
   rw [e1,e2]
   simp
  rw [←e]
  exact this
theorem bytes_run {t:TypeId} {i:TypeInfo} (h:C.P.info? t=some i): bytesT C.P t=i.bytes∧sizeT C.P t=i.size:=by
 simp [bytesT,sizeT,h]
theorem info_of_size (hS:SigOk C.S) {e u:TypeId} (h:Nat.beq (sizeT C.P e) (C.S.sz u)= true): ∃i,C.P.info? e=some i∧i.size=C.S.sz u:=size_run hS (Nat.eq_of_beq_eq_true h)
theorem store_cells (hI:Inv C.S B env w H) {i off b:Nat} {cs new:List (AV C.S.El)} {t:TypeId} {vx:Value} (hobj:obj H i = .cells cs) (hb:env.val i=some (.pointer (some ⟨b,0,none⟩))) (hn:G2 C.S env w new vx.cells.toList)
  (h1:new.length=sizeT C.P t) (h2:off+new.length≤cs.length) (h3:new.all one=true) (hs:(C.P.info? t).isSome=true):
  ∃w',(Instr.storeAt t (.pointer (some ⟨b,off,none⟩)) vx).run C.P w = .ok () w'∧Inv C.S B env w' (setN H i (.cells (over cs off new)))∧Ext B H.length env w env w':=by
 have ho:=hI.objs i
 rw [hobj] at ho
 obtain ⟨b',vs,T,e1,e2,e3,e4⟩:= ho
 rw [hb] at e1;cases e1
 have hvl:vs.size=cs.length:=by simpa using e4.1
 have hnl:vx.cells.size=new.length:=by simpa using hn.1
 cases hi:C.P.info? t with
 | none=>rw [hi] at hs;cases hs
 | some inf =>
 have hsz:vx.cells.size=inf.size:=by rw [hnl,h1];simp [sizeT,hi]
 have hrun:=run_storeCells_at C.P b off T vx.cells.toList 0 vs w e3 (by simp;omega) (ones_cell new _ h3 hn)
 simp only [Nat.add_zero] at hrun
 refine ⟨w.setRow b (vs.toList.take off ++ vx.cells.toList ++ vs.toList.drop (off+vx.cells.toList.length)).toArray, ?_,set_obj hI hb rfl (by rw [hobj];rfl) (below_setRow (Below.refl B w) e2 _) (fun k hk=>setRow_other w b k _ hk) (fun hE=>?_) rfl⟩
 ·simp [Instr.storeAt,Instr.sureAddr,storeVar,run_sizeOf hi,hsz,hrun]
 ·refine ⟨b,_,T,rfl,e2,setRow_heap w b vs _ T (0,0) e3, ?_⟩
  have:=overL (e4.ext hE hI.fresh) (hn.ext hE hI.fresh) h2
  simpa using this
theorem splice_take {α:Type} (cur v:List α) (N p:Nat) (h:p+v.length≤N) (hN:N≤cur.length):
  (cur.take p ++ v ++ cur.drop (p+v.length)).take N=(cur.take N).take p ++ v ++ (cur.take N).drop (p+v.length):= by
 have h1:(cur.take p ++ v).length=p+v.length:=by simp;omega
 rw [List.take_append,List.take_of_length_le (by omega),h1,List.take_take,Nat.min_eq_left (by omega),List.drop_take]
theorem splice_getD {α:Type} (us v:List α) (p q:Nat) (d:α) (h:p+v.length≤us.length):
  (us.take p ++ v ++ us.drop (p+v.length)).getD q d=if p≤q∧q < p+v.length then v.getD (q - p) d else us.getD q d:=by
 have h1:(us.take p).length=p:=by simp;omega
 simp only [List.getD,List.append_assoc,List.getElem?_append,h1]
 by_cases a:q < p
 ·rw [if_pos a,if_neg (by omega),List.getElem?_take,if_pos a]
 ·rw [if_neg a]
  by_cases b:q - p < v.length
  ·rw [if_pos b,if_pos (by omega)]
  ·rw [if_neg b,if_neg (by omega),List.getElem?_drop]
   congr 2;omega
theorem run_storeCells_fz (P:Program) (g o:Nat) (t:TypeId) (fz:Nat×Nat): ∀(vs:List Value) (i:Nat) (cur:Array Value) (w:World),w.heap[g]? = some (.cells cur t fz)→(fz.2=0∨cur.size≤fz.1)→o+i+vs.length≤cur.size→(∀v∈vs,v.oneCell'=true)→
  (storeCells ⟨g,o,none⟩ vs i).run P w = .ok () (w.setRow g (cur.toList.take (o+i)++ vs ++ cur.toList.drop (o+i+vs.length)).toArray)
 | [],i,cur,w,hg,_,_,_=>by
  simp only [storeCells,List.append_nil,List.length_nil,Nat.add_zero,List.take_append_drop,Array.toArray_toList]
  rw [setRow_self w g cur t fz hg]
  rfl
 | v::rest,i,cur,w,hg,hfz,hl,h1=>by
  have hi:o+i < cur.size:=by simp at hl;omega
  have hadd:(⟨g,o,none⟩: Addr).add i=⟨g,o+i,none⟩:= by unfold Addr.add;split <;> simp_all
  have hcell:w.cell? ⟨g,o+i,none⟩= some cur[o+i]:= by simp [World.cell?,hg,hi]
  have hfro:w.frozen? ⟨g,o+i,none⟩= false:=by
   obtain ⟨lo,up⟩:= fz
   simp only [World.frozen?,hg,Bool.and_eq_false_iff,decide_eq_false_iff_not]
   simp only at hfz
   rcases hfz with h | h
   ·right;omega
   ·left;omega
  have hst:(store ((⟨g,o,none⟩: Addr).add i) v).run P w = .ok () (w.setRow g (cur.setIfInBounds (o+i) v)):= by
   rw [hadd,run_store P w _ v _ (h1 v (by simp)),hcell]
   simp [hfro,setCell_eq_setRow w g (o+i) cur t fz v hg]
  have ih:=run_storeCells_fz P g o t fz rest (i+1) (cur.setIfInBounds (o+i) v) (w.setRow g (cur.setIfInBounds (o+i) v)) (setRow_heap w g cur _ t _ hg) (by simpa using hfz) (by simp at hl ⊢;omega) (fun x hx=>h1 x (by simp [hx]))
  simp only [storeCells,Sem.run_bind,hst,Result.andThen_ok,ih,setRow_setRow]
  congr 3
  have e:=list_seg_step cur.toList (o+i) v rest (by simp at hl ⊢;omega)
  simpa [Nat.add_assoc] using e
theorem splice_off {α:Type} (l v:List α) (o p:Nat) (h:o+p≤l.length): (l.take (o+p)++ v ++ l.drop (o+p+v.length)).drop o=(l.drop o).take p ++ v ++ (l.drop o).drop (p+v.length):= by
 rw [List.append_assoc,List.drop_append_of_le_length (by rw [List.length_take];omega),List.drop_take,List.drop_drop,show o+p - o=p by omega,Nat.add_assoc,List.append_assoc]
theorem store_row (hS:SigOk C.S) (hI:Inv C.S B env w H) {i idx off b n cap bo:Nat} {u:TypeId} {xs:List (C.S.El u)} {new:List (AV C.S.El)} {y:C.S.El u} {t:TypeId} {vx:Value} (hobj:obj H i = .row u xs)
  (hb:env.val i=some (.slice (some ⟨b,bo,none⟩) n cap)) (hn:G2 C.S env w new vx.cells.toList) (hy:C.S.dec u (over (C.S.cell u (xs.getD idx (C.S.dflt u))) off new)= some y) (hidx:idx < xs.length)
  (h1:new.length=sizeT C.P t) (h2:off+new.length≤C.S.sz u) (h3:new.all one=true) (hs:(C.P.info? t).isSome=true):
  ∃w',(Instr.storeAt t (.pointer (some ⟨b,bo+(idx*C.S.sz u+off),none⟩)) vx).run C.P w = .ok () w'∧Inv C.S B env w' (setN H i (.row u (xs.set idx y)))∧Ext B H.length env w env w':=by
 have ho:=hI.objs i
 rw [hobj] at ho
 obtain ⟨u',ws,e1,e2,e3⟩:= ho
 rw [hb] at e1;cases e1
 rcases e2.2 with ⟨e4,_⟩| ⟨g,cap',cur,fz,bo',e4,e5,e6,e7,e8,e9,e10,e11⟩
 ·cases e4
 cases e4
 have hnl:vx.cells.size=new.length:=by simpa using hn.1
 cases hi:C.P.info? t with
 | none=>rw [hi] at hs;cases hs
 | some inf =>
 have hsz:vx.cells.size=inf.size:=by rw [hnl,h1];simp [sizeT,hi]
 have hm:(idx+1)* C.S.sz u≤xs.length*C.S.sz u:=Nat.mul_le_mul_right _ hidx
 have hm2:xs.length*C.S.sz u≤cap*C.S.sz u:=Nat.mul_le_mul_right _ e7
 rw [Nat.add_mul,Nat.one_mul] at hm
 have hrun:=run_storeCells_fz C.P b (bo+(idx*C.S.sz u+off)) u fz vx.cells.toList 0 cur w e6 e11 (by simp;omega) (ones_cell new _ h3 hn)
 simp only [Nat.add_zero] at hrun
 have hwl:=e2.1
 have hvl:vx.cells.toList.length=new.length:=hn.1
 refine ⟨w.setRow b (cur.toList.take (bo+(idx*C.S.sz u+off))++ vx.cells.toList ++ cur.toList.drop (bo+(idx*C.S.sz u+off)+ vx.cells.toList.length)).toArray, ?_,set_obj hI hb rfl (by rw [hobj];rfl) (below_setRow (Below.refl B w) e5 _) (fun k hk=>setRow_other w b k _ hk) (fun hE=>?_) rfl⟩
 ·simp [Instr.storeAt,Instr.sureAddr,storeVar,run_sizeOf hi,hsz,hrun]
 ·have hN:=hI.fresh
  have hcl:xs.length*C.S.sz u≤(cur.toList.drop bo).length:=by simp;omega
  have hsp:=splice_take (cur.toList.drop bo) vx.cells.toList (xs.length*C.S.sz u) (idx*C.S.sz u+off) (by omega) hcl
  rw [e10,←splice_off _ _ _ _ (by simp;omega)] at hsp
  refine ⟨_,ws.take (idx*C.S.sz u+off)++ vx.cells.toList ++ ws.drop (idx*C.S.sz u+off+vx.cells.toList.length),rfl,⟨?_, .inr ⟨b,cap,_,fz,bo,by rw [List.length_set],e5,setRow_heap w b cur _ u fz e6,by rw [List.length_set];exact e7,e8, ?_, ?_, ?_⟩⟩,fun j k hj hk=>?_⟩
  ·simp only [List.length_append,List.length_take,List.length_drop,List.length_set];omega
  ·simp only [List.size_toArray,List.length_append,List.length_take,List.length_drop,Array.length_toList];omega
  ·rw [List.length_set];exact hsp
  ·refine e11.imp id fun h=>?_
   simp only [List.size_toArray,List.length_append,List.length_take,List.length_drop,Array.length_toList];omega
  ·rw [List.length_set] at hj
   rw [splice_getD _ _ _ _ _ (by omega)]
   by_cases hji:j=idx
   ·subst hji
    have hy':(xs.set j y).getD j (C.S.dflt u)= y:=by simp [List.getD,hj]
    rw [hy']
    have hold:G2 C.S env w (C.S.cell u (xs.getD j (C.S.dflt u))) ((ws.drop (j*C.S.sz u)).take (C.S.sz u)):= by
     refine ⟨by simp only [List.length_take,List.length_drop,hS.len];omega,fun q=>?_⟩
     by_cases hq:q < C.S.sz u
     ·rw [show ((ws.drop (j*C.S.sz u)).take (C.S.sz u)).getD q undef=ws.getD (j*C.S.sz u+q) undef by simp [List.getD,hq]]
      exact e3 j q hj hq
     ·have:(C.S.cell u (xs.getD j (C.S.dflt u))).getD q AV.any = .any:=by
       have:=hS.len u (xs.getD j (C.S.dflt u))
       generalize C.S.cell u (xs.getD j (C.S.dflt u))= cs at this ⊢
       rw [List.getD,List.getElem?_eq_none (by omega)];rfl
      rw [this];exact .any _
    have hnew:=overL (hold.ext hE hN) (hn.ext hE hN) (by rw [hS.len];exact h2)
    have hdec:=(hS.dec u _ y hy env _ _ hnew).2 k
    rw [splice_getD _ _ _ _ _ (by simp only [List.length_take,List.length_drop];omega)] at hdec
    by_cases hr:off≤k∧k < off+vx.cells.toList.length
    ·rw [if_pos hr] at hdec
     rw [if_pos (by omega),show j*C.S.sz u+k - (j*C.S.sz u+off)= k - off by omega]
     exact hdec
    ·rw [if_neg hr] at hdec
     rw [if_neg (by omega)]
     rw [show ((ws.drop (j*C.S.sz u)).take (C.S.sz u)).getD k undef=ws.getD (j*C.S.sz u+k) undef by simp [List.getD,hk]] at hdec
     exact hdec
   ·have hx':(xs.set idx y).getD j (C.S.dflt u)= xs.getD j (C.S.dflt u):= by simp only [List.getD,List.getElem?_set];rw [if_neg (by omega)]
    rw [hx',if_neg ?_]
    ·exact (e3 j k hj hk).ext hE hN
    ·rintro ⟨ha,hb⟩
     rcases Nat.lt_or_gt_of_ne hji with hlt | hgt
     ·have:(j+1)* C.S.sz u≤idx*C.S.sz u:=Nat.mul_le_mul_right _ hlt
      rw [Nat.add_mul,Nat.one_mul] at this
      omega
     ·have:(idx+1)* C.S.sz u≤j*C.S.sz u:=Nat.mul_le_mul_right _ hgt
      rw [Nat.add_mul,Nat.one_mul] at this
      omega
end
end Go.Aw
end
