/-
  Every pure operation of the reckoner is the model's (own work).
-/
import Derived.Test.YtlnbhdcaebmffaaGreatXAwX
set_option linter.unusedSimpArgs false
set_option linter.unusedVariables false
namespace Go.Aw
open Go.RowKit
section
variable {C:Cx} {env:Env} {w:World} {B:Nat} {H:List (AObj C.S.El)}
theorem andThen_assoc' {α β γ:Type} (r:Result α) (f:α→World→Result β) (g:β→World→Result γ): (r.andThen f).andThen g=r.andThen fun a w=>(f a w).andThen g:=by cases r <;> rfl
theorem Γ.unGd {S:Sig} {env:Env} {w:World} {x:AV S.El} {v:Value} (h:Γ S env w x v) (hg : ∀g∈(Go.Aw.unGd x).1,g=true): Γ S env w (Go.Aw.unGd x).2 v:=by
 cases x <;> simp only [Go.Aw.unGd] at hg ⊢<;> try exact h
 cases h with | gd g x v h _=>exact h (hg _ (by simp))
theorem own1_gd {x:AV C.S.El}: (∀p∈own1 x,p) ↔ ∀g∈(unGd x).1,g=true:=by
 cases x <;> simp only [own1,unGd,List.mem_singleton,forall_eq,List.not_mem_nil,false_imp_iff,implies_true]
theorem own2_gd {q:Prop} {x:AV C.S.El}: (∀p∈own2 q x,p) ↔ (q→∀g∈(unGd x).1,g=true):= by
 cases x <;> simp only [own2,unGd,List.mem_singleton,forall_eq,List.not_mem_nil,false_imp_iff,implies_true]
theorem pickA_sound {c a b r:AV C.S.El} {vc va vb:Value} {ps:List Prop} (h:pickA c a b=some (ps,r)) (hp : ∀p∈ps,p) (hc:Γ C.S env w c vc) (ha:Γ C.S env w a va) (hb:Γ C.S env w b vb):
  ∃z:Bool,vc = .bool z∧Γ C.S env w r (if z then va else vb):= by
 unfold pickA at h
 split at h
 ·rename_i z p q hz hpp hq
  cases h
  simp only [List.mem_append,or_imp,forall_and] at hp
  obtain ⟨⟨p1,p2⟩,p3⟩:= hp
  have h1:=hc.unGd (own1_gd.1 p1)
  rw [hz] at h1
  cases h1.unv
  refine ⟨z,rfl, ?_⟩
  cases z
  ·have h2:=hb.unGd (own2_gd.1 p3 rfl)
   rw [hq] at h2
   cases h2.unv
   simpa using Γ.v (S:=C.S) _
  ·have h2:=ha.unGd (own2_gd.1 p2 rfl)
   rw [hpp] at h2
   cases h2.unv
   simpa using Γ.v (S:=C.S) _
 ·cases h
theorem targetOf_sound {rho:Operand→AV C.S.El} {e:Operand→Value} {c:Call} {f:FuncId} {args:List (AV C.S.El)} (h:targetOf rho c=some (f,args)) (hρ : ∀x∈c.operands.toList,Γ C.S env w (rho x) (e x)):
  ∃x fs vs,c.callee = .value x∧e x = .func (.func f) fs vs∧G2 C.S env w args (fs ++ (c.args.map e ++ vs)).toList:=by
 unfold targetOf at h
 split at h
 ·rename_i x hc
  split at h
  ·rename_i g cap hx
   cases h
   have h1:=hρ x (by simp [Call.operands,hc])
   rw [hx] at h1
   obtain ⟨vs,h2,h3⟩:= h1.unclo
   refine ⟨x,_,_,hc,h2, ?_⟩
   have ha:=G2.map_ops (S:=C.S) (env:=env) (w:=w) (rho:=rho) (e:=e) c.args.toList (fun y hy=>hρ y (by simp [Call.operands,hc];exact .inr (by simpa using hy)))
   have h4:G2 C.S env w (cap.take (g / mvK)) (vs.toList.take (g / mvK)):= h3.take _
   have h5:G2 C.S env w (cap.drop (g / mvK)) (vs.toList.drop (g / mvK)):= h3.drop _
   have:=h4.append (ha.append h5)
   simpa using this
  ·cases h
 ·cases h
theorem isScal2_sound {env':Env} {w':World} {r:AV C.S.El} {n:Nat} {v:Value} (hr:isScal2 r=true) (h:Γ C.S env w (sh2 n r) v): Γ C.S env' w' (sh2 n r) v:=by
 have s0 : ∀{x:AV C.S.El} {u:Value},isScal x=true→Γ C.S env w (sh n x) u→Γ C.S env' w' (sh n x) u:=by
  intro x u hx h
  cases x <;> simp only [isScal,Bool.false_eq_true] at hx
  simp only [sh] at h ⊢
  cases h.unv
  exact .v _
 have s1 : ∀{x:AV C.S.El} {u:Value},isScal1 x=true→Γ C.S env w (sh1 n x) u→Γ C.S env' w' (sh1 n x) u:=by
  intro x u hx h
  cases x
  case agg cs =>
   simp only [sh1] at h ⊢
   obtain ⟨vs,rfl,hvs⟩:= h.unagg
   refine G2.agg ⟨hvs.1,fun j=>?_⟩
   have:=hvs.2 j
   simp only [List.getD,List.getElem?_map] at this ⊢
   cases hc:cs[j]? with
   | none=>simpa using Γ.any (S:=C.S) _
   | some c =>
    rw [hc] at this
    exact s0 ((List.all_eq_true.1 hx) c (List.mem_of_getElem? hc)) this
  all_goals (simp only [isScal1,sh1] at hx h ⊢;exact s0 hx h)
 cases r
 case tup cs =>
  simp only [sh2] at h ⊢
  obtain ⟨vs,rfl,hvs⟩:= h.untup
  refine .tup _ _ (by simpa using hvs.1) fun j=>?_
  have:=hvs.2 j
  simp only [List.getD,List.getElem?_map] at this ⊢
  cases hc:cs[j]? with
  | none=>simpa using Γ.any (S:=C.S) _
  | some c =>
   rw [hc] at this
   exact s1 ((List.all_eq_true.1 hr) c (List.mem_of_getElem? hc)) this
 all_goals (simp only [isScal2,sh2] at hr h ⊢;exact s1 hr h)
theorem Γ.lt2n (hS:SigOk C.S) {env':Env} {n:Nat} (hv : ∀i v,i < n→env.val i=some v→env'.val i=some v) (hp : ∀b o,env.prot b o→env'.prot b o) {x:AV C.S.El} {v:Value} (h:Γ C.S env w x v) (hl:Go.Aw.lt2 n x=true): Γ C.S env' w x v:=by
 have h0 : ∀{x:AV C.S.El} {v:Value},Γ C.S env w x v→Go.Aw.lt0 n x=true→Γ C.S env' w x v:=fun h hl=>Γ.lt0 hS hv (fun b o hpp=>⟨hp b o hpp,rfl⟩) h hl
 have hl0 : ∀{cs:List (AV C.S.El)} {vs:List Value},G2 C.S env w cs vs→cs.all (Go.Aw.lt0 n)= true→G2 C.S env' w cs vs:=by
  intro cs vs hg ha
  refine ⟨hg.1,fun j=>?_⟩
  have:=hg.2 j
  simp only [List.getD] at this ⊢
  cases hc:cs[j]? with
  | none=>simpa using Γ.any (S:=C.S) _
  | some c=>rw [hc] at this;exact h0 this ((List.all_eq_true.1 ha) c (List.mem_of_getElem? hc))
 have h1 : ∀{x:AV C.S.El} {v:Value},Γ C.S env w x v→Go.Aw.lt1 n x=true→Γ C.S env' w x v:=by
  intro x v h hl
  cases x
  case agg cs =>
   obtain ⟨vs,rfl,hvs⟩:= h.unagg
   exact G2.agg (hl0 hvs hl)
  case clo f cs =>
   obtain ⟨vs,rfl,hvs⟩:= h.unclo
   have:=hl0 hvs hl
   exact .clo f cs vs (by simpa using this.1) this.2
  all_goals (simp only [Go.Aw.lt1] at hl;exact h0 h hl)
 cases x
 case tup cs =>
  obtain ⟨vs,rfl,hvs⟩:= h.untup
  refine .tup cs vs (by simpa using hvs.1) fun j=>?_
  have:=hvs.2 j
  simp only [List.getD] at this ⊢
  cases hc:cs[j]? with
  | none=>simpa using Γ.any (S:=C.S) _
  | some c=>rw [hc] at this;exact h1 this ((List.all_eq_true.1 hl) c (List.mem_of_getElem? hc))
 case gd g x =>
  cases h with | gd _ _ _ k1 k2=>exact .gd g x v (fun hg=>h1 (k1 hg) hl) k2
 all_goals (simp only [Go.Aw.lt2] at hl;exact h1 h hl)
theorem Γ.lt2' (hS:SigOk C.S) {env2:Env} {w':World} {val:Nat→Option Value} {x:AV C.S.El} {v:Value} (h:Γ C.S env2 w' x v) (hl:Go.Aw.lt2 0 x=true): Γ C.S ⟨val,env2.prot⟩ w' x v :=
 Γ.lt2n (env:=env2) (env':=⟨val,env2.prot⟩) hS (n:=0) (fun i v hi=>by omega) (fun _ _ h=>h) h hl
theorem val_same (hS:SigOk C.S) (hI:Inv C.S B env w H) {env2:Env} {w':World} (hI2:Inv C.S B env2 w' H) (hE:Ext B H.length env w env2 w') (hbel:Below w.heap.size w w') {x:AV C.S.El} {v:Value} (hl:lt2 0 x=true) (hx:Γ C.S env2 w' x v): PureR C B env w H x v w':=by
 have hE4:Ext B H.length env w ⟨env.val,env2.prot⟩ w':=⟨hE.below,fun _ _ _ h=>h,hE.prot,hE.keep,hE.newp⟩
 refine ⟨⟨env.val,env2.prot⟩,rfl,Γ.lt2' hS hx hl,hI.ext hE4 (fun _ _ h=>h) (fun i u b e1 e2 e3=>hbel.block b (live_block hI e1 e2 e3)) (fun i u b o e1 e2 e3 hp=>?_) (fun b o hp=>hI2.inheap b o hp),hE4⟩
 exact absurd hp (hI2.free i u b e1 (hE.val i u (hI.fresh i u e2) e2) e3 o)
theorem Inv.below {w':World} (hI:Inv C.S B env w H) (h:Below w.heap.size w w'): Inv C.S B env w' H∧Ext B H.length env w env w':=by
 have hE:Ext B H.length env w env w':=⟨h.mono hI.base,fun _ _ _ h=>h,fun _ _ h=>h,fun b o hp=>h.block b (hI.inheap b o hp),fun _ _ h => .inl h⟩
 exact ⟨hI.ext hE (fun _ _ h=>h) (fun i u b h1 h2 h3=>h.block b (live_block hI h1 h2 h3)) (fun _ _ _ _ _ _ _ h=>h) (fun b o hp=>Nat.lt_of_lt_of_le (hI.inheap b o hp) h.size),hE⟩
theorem evP_sound (hC:CxOk C) (hI:Inv C.S B env w H) {o:Oper} {a:Act} {rho:Operand→AV C.S.El} (hρ : ∀x∈o.op.operands.toList,Γ C.S env w (rho x) (a.eval x)) {ps:List Prop} {r:AV C.S.El}
  (h:evP C o rho H=some (ps,r)) (hp : ∀p∈ps,p): Does C.P o a w (PureR C B env w H r):= by
 have hS:=hC.sig
 unfold evP at h
 cases hop:o.op <;> rw [hop] at h hρ <;> simp only [reduceCtorEq] at h
 case move x =>
  cases h
  exact does_value (by simp [execOp,hop]) (.same hI (hρ x (by simp [Op.operands])))
 case assign x =>
  cases h
  exact does_value (by simp [execOp,hop]) (.same hI (hρ x (by simp [Op.operands])))
 case pick c x y =>
  obtain ⟨z,hz,hr⟩:= pickA_sound h hp (hρ c (by simp [Op.operands])) (hρ x (by simp [Op.operands])) (hρ y (by simp [Op.operands]))
  refine does_value (v:=if z then a.eval x else a.eval y) ?_ (.same hI hr)
  simp [execOp,hop,hz,asBool]
 case build t parts =>
  simp only [Option.map_eq_some_iff] at h
  obtain ⟨y,hy,h⟩:= h
  cases h
  obtain ⟨v,hv,hr⟩:= buildA_sound (e:=a.eval) hy (fun x hx=>hρ x (by simpa [Op.operands] using hx))
  refine does_value (v:=v) ?_ (.same hI hr)
  have hv':(Instr.build t (parts.map fun x=>(x.1,a.eval x.2))).run C.P w = .ok v w:=by simpa using hv
  simp [execOp,hop,hv']
 case load t x =>
  obtain ⟨v,hv,hr⟩:= loadA_sound hS hI h hp (hρ x (by simp [Op.operands]))
  exact does_value (v:=v) (by simp [execOp,hop,hv]) (.same hI hr)
 case nilCheck x =>
  have hx:=hρ x (by simp [Op.operands])
  split at h
  ·rename_i i off he
   cases h
   rw [he] at hx
   generalize hv:a.eval x=va at hx
   cases hx with | ref _ _ b hb =>
   exact does_value (by simp [execOp,hop,hv]) (.same hI (.ref i off b hb))
  ·rename_i t x' off he
   cases h
   rw [he] at hx
   generalize hv:a.eval x=va at hx
   cases hx with | rp _ _ _ b o' val hw hh =>
   exact does_value (by simp [execOp,hop,hv]) (.same hI (.rp t x' off b o' val hw hh))
  ·rename_i t i j off he
   cases h
   rw [he] at hx
   generalize hv:a.eval x=va at hx
   cases hx with | rg _ _ _ _ b n cap bo hb =>
   exact does_value (by simp [execOp,hop,hv]) (.same hI (.rg t i j off b n cap bo hb))
  ·rename_i f c he
   cases h
   rw [he] at hx
   generalize hv:a.eval x=va at hx
   obtain ⟨vs,rfl,h2⟩:= hx.unclo
   exact does_value (v:=closV f vs) (by simp only [execOp,hop,hv];simp [closV]) (.same hI (.clo f c vs (by simpa using h2.1) h2.2))
  ·cases h
 case binOp op t x y yt =>
  obtain ⟨v,hv,hr⟩:= binA_sound (x:=x) (y:=y) h hp (hρ x (by simp [Op.operands])) (hρ y (by simp [Op.operands]))
  refine does_value (v:=v) ?_ (.same hI hr)
  have hv':=congrArg (fun r=>Result.andThen r (fun (u:Value) w'=>Result.ok (Next.value u) w')) hv
  simp only [Sem.run_bind,andThen_assoc'] at hv'
  simp only [execOp,hop]
  simpa using hv'
 case unOp op t x =>
  simp only [Option.map_eq_some_iff] at h
  obtain ⟨y,hy,h⟩:= h
  cases h
  obtain ⟨v,hv,hr⟩:= unA_sound hy (hρ x (by simp [Op.operands]))
  exact does_value (v:=v) (by simp [execOp,hop,hv]) (.same hI hr)
 case convert s d x =>
  split at h
  ·rename_i y hy
   cases h
   obtain ⟨v,w',hv,hr⟩:= convA_sound hS hI hy (hρ x (by simp [Op.operands]))
   exact does_value (v:=v) (by simp [execOp,hop,hv]) hr
  ·simp only [Option.map_eq_some_iff] at h
   obtain ⟨y,hy,h⟩:= h
   cases h
   obtain ⟨v,hv,hr⟩:= convS_sound hS hI hy (hρ x (by simp [Op.operands]))
   exact does_value (v:=v) (by simp [execOp,hop,hv]) (.same hI hr)
 case fieldAddr t x f =>
  simp only [Option.map_eq_some_iff] at h
  obtain ⟨y,hy,h⟩:= h
  cases h
  obtain ⟨v,hv,hr⟩:= fieldAddrA_sound hy (hρ x (by simp [Op.operands]))
  exact does_value (v:=v) (by simp [execOp,hop,hv]) (.same hI hr)
 case field t x f =>
  simp only [Option.map_eq_some_iff] at h
  obtain ⟨y,hy,h⟩:= h
  cases h
  obtain ⟨v,hv,hr⟩:= fieldA_sound hy (hρ x (by simp [Op.operands]))
  exact does_value (v:=v) (by simp [execOp,hop,hv]) (.same hI hr)
 case indexAddr t x i =>
  obtain ⟨v,hv,hr⟩:= indexAddrA_sound hS hI h hp (hρ x (by simp [Op.operands])) (hρ i (by simp [Op.operands]))
  exact does_value (v:=v) (by simp [execOp,hop,hv]) (.same hI hr)
 case index t x i =>
  obtain ⟨v,hv,hr⟩:= indexA_sound h hp (hρ x (by simp [Op.operands])) (hρ i (by simp [Op.operands]))
  exact does_value (v:=v) (by simp [execOp,hop,hv]) (.same hI hr)
 case slice t x lo hi mx =>
  obtain ⟨v,hv,hr⟩:= sliceA_sound (lo:=lo.map a.eval) (hi:=hi.map a.eval) (mx:=mx.map a.eval) hS h hp (hρ x (by simp [Op.operands]))
   (fun y hy=>by
    obtain ⟨z,hz,rfl⟩:= Option.map_eq_some_iff.1 hy
    exact ⟨a.eval z,by rw [hz];rfl,hρ z (by simp [Op.operands,hz])⟩) (fun h=>by cases lo <;> simp_all)
   (fun y hy=>by
    obtain ⟨z,hz,rfl⟩:= Option.map_eq_some_iff.1 hy
    exact ⟨a.eval z,by rw [hz];rfl,hρ z (by simp [Op.operands,hz])⟩) (fun h=>by cases hi <;> simp_all)
   (fun y hy=>by
    obtain ⟨z,hz,rfl⟩:= Option.map_eq_some_iff.1 hy
    exact ⟨a.eval z,by rw [hz];rfl,hρ z (by simp [Op.operands,hz])⟩) (fun h=>by cases mx <;> simp_all)
  exact does_value (v:=v) (by simp [execOp,hop,hv]) (.same hI hr)
 case extract x i =>
  have hx:=hρ x (by simp [Op.operands])
  split at h
  ·rename_i vs he
   simp only [Option.map_eq_some_iff,nth_eq] at h
   obtain ⟨y,hy,h⟩:= h
   cases h
   rw [he] at hx
   obtain ⟨us,hu,hus⟩:= hx.untup
   obtain ⟨v,hv,hr⟩:= hus.get hy
   have hv':us[i]? = some v:=by simpa using hv
   exact does_value (v:=v) (by simp [execOp,hop,hu,Instr.extract,hv']) (.same hI hr)
  ·cases h
 case makeFunc fn first cap =>
  cases fn <;> simp only [reduceCtorEq] at h
  rename_i f
  obtain ⟨hf,h⟩:= cond_some h
  cases h
  have hg1:=G2.map_ops (S:=C.S) (env:=env) (w:=w) (rho:=rho) (e:=a.eval) first.toList (fun y hy=>hρ y (by simp only [Op.operands,Array.toList_append,List.mem_append];exact .inl hy))
  have hg2:=G2.map_ops (S:=C.S) (env:=env) (w:=w) (rho:=rho) (e:=a.eval) cap.toList (fun y hy=>hρ y (by simp only [Op.operands,Array.toList_append,List.mem_append];exact .inr hy))
  have hg:=hg1.append hg2
  have e:=closV_mk f (first.map a.eval) (cap.map a.eval) hf
  rw [Array.size_map] at e
  refine does_value (v:=.func (.func f) (first.map a.eval) (cap.map a.eval)) (by simp [execOp,hop,Instr.makeFunc]) (.same hI ?_)
  rw [←e]
  exact .clo _ _ _ (by simp) (by simpa using hg.2)
 case call c =>
  split at h
  ·rename_i hc
   split at h
   ·rename_i x t hx ht
    simp only [Option.map_eq_some_iff] at h
    obtain ⟨y,hy,h⟩:= h
    cases h
    have hx':c.args = #[x]:= by apply Array.ext';simpa using hx
    have ht':c.argTypes = #[t]:= by apply Array.ext';simpa using ht
    obtain ⟨v,hv,hr⟩:= lenA_sound (ty:=o.type) hI hy (hρ x (by simp [Op.operands,Call.operands,hc,hx']))
    refine does_value (v:=v) ?_ (.same hI hr)
    simp [execOp,hop,resolve,hc,hx',ht',invoke,builtin,hv]
   ·cases h
  ·rename_i hc
   simp only [Option.map_eq_some_iff] at h
   obtain ⟨y,hy,h⟩:= h
   cases h
   unfold mmA at hy
   split at hy
   ·rename_i k i rest hargs
    have hg:=G2.map_ops (S:=C.S) (env:=env) (w:=w) (rho:=rho) (e:=a.eval) c.args.toList (fun y hy=>hρ y (by simp [Op.operands,Call.operands,hc];simpa using hy))
    rw [hargs] at hg
    obtain ⟨u,us,he,h1,h2⟩:= hg.uncons
    cases h1.unv
    obtain ⟨v,hv,hr⟩:= foldMM_min rest i us _ hy h2
    refine does_value (v:=v) ?_ (.same hI hr)
    have he':(c.args.map a.eval).toList = .int k i::us:=by simpa using he
    simp [execOp,hop,resolve,hc,invoke,builtin,Builtin.min_,he,hv]
   ·cases hy
  ·rename_i hc
   simp only [Option.map_eq_some_iff] at h
   obtain ⟨y,hy,h⟩:= h
   cases h
   unfold mmA at hy
   split at hy
   ·rename_i k i rest hargs
    have hg:=G2.map_ops (S:=C.S) (env:=env) (w:=w) (rho:=rho) (e:=a.eval) c.args.toList (fun y hy=>hρ y (by simp [Op.operands,Call.operands,hc];simpa using hy))
    rw [hargs] at hg
    obtain ⟨u,us,he,h1,h2⟩:= hg.uncons
    cases h1.unv
    obtain ⟨v,hv,hr⟩:= foldMM_max rest i us _ hy h2
    refine does_value (v:=v) ?_ (.same hI hr)
    simp [execOp,hop,resolve,hc,invoke,builtin,Builtin.max_,he,hv]
   ·cases hy
  ·rename_i x0 hc
   split at h
   ·rename_i f args ht
    split at h
    ·rename_i ct hT
     split at h
     ·rename_i ps' r' hct
      obtain ⟨hb,h⟩:= cond_some h
      cases h
      simp only [Bool.and_eq_true,Bool.or_eq_true] at hb
      obtain ⟨x,fs,vs,hc2,hx,hg⟩:= targetOf_sound (e:=a.eval) (env:=env) (w:=w) ht (fun y hy=>hρ y (by simpa [Op.operands] using hy))
      have hrun:=run_call (C:=C) (w:=w) (o:=o) (e:=a.eval) hop hc2 hx (hC.plainT f ct hT)
      obtain ⟨env1,v1,I1,E1,l1,g1⟩:= args_sound hS hI c hg
      have hcall:=hC.ct f ct hT _ _ _ _ hct hp hb.1 B env1 w _ _ g1 I1
      unfold Does
      rw [hrun]
      simp only [Array.toArray_toList] at hcall
      refine hcall.mono fun e w' ⟨v,env2,he,hΓ,hI2,hE2,hbel⟩=> ⟨v,he, ?_⟩
      rw [l1] at hΓ hE2
      rcases hb.2.1 with hs | hs
      ·obtain ⟨i3,e3⟩:= hI.below hbel
       exact ⟨env,rfl,isScal2_sound hs hΓ,i3,e3⟩
      ·have hnil:args.flatMap owns1=[]:= by simpa using hs
       rw [hnil] at hI2
       simp only [freezeAll,List.foldl_nil,List.append_nil] at hI2
       exact val_same hS hI hI2 (E1.trans hE2) hbel hb.2.2 hΓ
     ·cases h
    ·cases h
   ·cases h
  ·cases h
end
end Go.Aw
