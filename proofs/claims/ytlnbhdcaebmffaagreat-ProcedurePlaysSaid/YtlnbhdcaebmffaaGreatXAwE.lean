/-
  A contract out of the reckoning of a function's body (own work).
-/
import Derived.Test.YtlnbhdcaebmffaaGreatXAwD
set_option linter.unusedSimpArgs false
set_option linter.unusedVariables false
namespace Go.Aw
open Go.RowKit
section
variable {C:Cx} {env env':Env} {w w':World} {B n:Nat} {H':List (AObj C.S.El)}
def envX (env env':Env) (n:Nat) (F:List Nat): Env:=⟨fun i=>if i < n then env.val i else (F[i - n]?).bind env'.val,env'.prot⟩
theorem closed0 (hS:SigOk C.S) {F:List Nat} {x:AV C.S.El} {v:Value} (h:Γ C.S env' w' x v) (hl:lt0 0 x=true): Γ C.S (envX env env' n F) w' x v :=
 Γ.lt0 (env:=env') (env':=envX env env' n F) (w:=w') (w':=w') hS (n:=0) (fun i v hi=>by omega) (fun b o hp=>⟨hp,rfl⟩) h hl
theorem exp0_sound (hS:SigOk C.S) (hI:Inv C.S B env' w' H') {ids ids':List Nat} {x y:AV C.S.El} {v:Value} (he:exp0 H' ids x=(ids',y)) (hx:Γ C.S env' w' x v): ids <+: ids'∧∀F,ids' <+: F→Γ C.S (envX env env' n F) w' (sh n y) v:=by
 cases x <;> simp only [exp0,Prod.mk.injEq] at he
 case v x=>obtain ⟨rfl,rfl⟩:= he;cases hx.unv;exact ⟨List.prefix_refl _,fun F _ => .v _⟩
 case sl t xs f=>obtain ⟨rfl,rfl⟩:= he;exact ⟨List.prefix_refl _,fun F _=>closed0 hS hx rfl⟩
 case fm k ks vs =>
  obtain ⟨rfl,rfl⟩:= he
  refine ⟨List.prefix_refl _,fun F _=>?_⟩
  cases hc:vs.all cl1
  ·exact .any _
  ·exact closed0 hS hx hc
 case gs i =>
  cases hx with | gs _ a m c hv =>
  have ho:=hI.objs i
  cases hobj:obj H' i with
  | row t xs =>
   rw [hobj] at he
   simp only at he
   cases hc:ids.contains i
   ·rw [hc,cond_false] at he
    cases he
    refine ⟨List.prefix_append _ _,fun F hF=>?_⟩
    simp only [sh]
    refine .gs _ a m c ?_
    simp only [envX]
    rw [if_neg (by omega),show n+ids.length - n=ids.length by omega]
    obtain ⟨G,rfl⟩:= hF
    simp [hv]
   ·rw [hc,cond_true] at he
    cases he
    exact ⟨List.prefix_refl _,fun F _ => .any _⟩
  | frozen t xs =>
   rw [hobj] at he ho
   cases he
   obtain ⟨u,h1,h2⟩:= ho
   rw [hv] at h1;cases h1
   exact ⟨List.prefix_refl _,fun F _=>closed0 hS h2 rfl⟩
  | _=>rw [hobj] at he;cases he;exact ⟨List.prefix_refl _,fun F _ => .any _⟩
 all_goals (obtain ⟨rfl,rfl⟩:= he;exact ⟨List.prefix_refl _,fun F _ => .any _⟩)
theorem expL_sound (hS:SigOk C.S) (hI:Inv C.S B env' w' H'): ∀(xs ys:List (AV C.S.El)) (ids ids':List Nat) (vs:List Value),expL H' ids xs=(ids',ys)→G2 C.S env' w' xs vs→ids <+: ids'∧∀F,ids' <+: F→G2 C.S (envX env env' n F) w' (ys.map (sh n)) vs
 | [],ys,ids,ids',vs,he,hg=>by
  cases he
  have:vs=[]:= List.eq_nil_of_length_eq_zero hg.1
  subst this
  exact ⟨List.prefix_refl _,fun F _ => .nil⟩
 | x::xs,ys,ids,ids',vs,he,hg=>by
  obtain ⟨u,us,rfl,g1,g2⟩:= hg.uncons
  simp only [expL] at he
  obtain ⟨p1,q1⟩:= exp0_sound (env:=env) (n:=n) hS hI (ids:=ids) (ids':=(exp0 H' ids x).1) (y:=(exp0 H' ids x).2) rfl g1
  obtain ⟨p2,q2⟩:= expL_sound hS hI xs (expL H' (exp0 H' ids x).1 xs).2 (exp0 H' ids x).1 (expL H' (exp0 H' ids x).1 xs).1 us rfl g2
  cases he
  exact ⟨p1.trans p2,fun F hF=>(q2 F hF).cons (q1 F (p2.trans hF))⟩
theorem exp0_flat (H:List (AObj C.S.El)) (ids:List Nat) (x:AV C.S.El): sh1 n (exp0 H ids x).2=sh n (exp0 H ids x).2:=by
 cases x
 case gs i =>
  simp only [exp0]
  cases obj H i <;> simp only [] <;> try rfl
  cases ids.contains i <;> rfl
 case fm k ks vs =>
  simp only [exp0]
  cases vs.all cl1 <;> rfl
 all_goals rfl
theorem exp0_flat2 (H:List (AObj C.S.El)) (ids:List Nat) (x:AV C.S.El): sh2 n (exp0 H ids x).2=sh1 n (exp0 H ids x).2:=by
 cases x
 case gs i =>
  simp only [exp0]
  cases obj H i <;> simp only [] <;> try rfl
  cases ids.contains i <;> rfl
 case fm k ks vs =>
  simp only [exp0]
  cases vs.all cl1 <;> rfl
 all_goals rfl
theorem exp1_flat (H:List (AObj C.S.El)) (ids:List Nat) (x:AV C.S.El): sh2 n (exp1 H ids x).2=sh1 n (exp1 H ids x).2:=by
 cases x
 case agg cs=>rfl
 all_goals exact exp0_flat2 H ids _
theorem exp1_sound (hS:SigOk C.S) (hI:Inv C.S B env' w' H') {ids ids':List Nat} {x y:AV C.S.El} {v:Value} (he:exp1 H' ids x=(ids',y)) (hx:Γ C.S env' w' x v): ids <+: ids'∧∀F,ids' <+: F→Γ C.S (envX env env' n F) w' (sh1 n y) v:=by
 cases x
 case agg cs =>
  obtain ⟨vs,rfl,hvs⟩:= hx.unagg
  simp only [exp1] at he
  obtain ⟨p,q⟩:= expL_sound (env:=env) (n:=n) hS hI cs (expL H' ids cs).2 ids (expL H' ids cs).1 vs.toList rfl hvs
  cases he
  exact ⟨p,fun F hF=>G2.agg (q F hF)⟩
 all_goals
  simp only [exp1] at he
  obtain ⟨p,q⟩:= exp0_sound (env:=env) (n:=n) hS hI he hx
  refine ⟨p,fun F hF=>?_⟩
  have hq:=q F hF
  have hfl:=exp0_flat (n:=n) (C:=C) H' ids
  rw [show y=_ from (congrArg Prod.snd he).symm] at hq ⊢
  rw [hfl];exact hq
theorem expL1_sound (hS:SigOk C.S) (hI:Inv C.S B env' w' H'): ∀(xs ys:List (AV C.S.El)) (ids ids':List Nat) (vs:List Value),expL1 H' ids xs=(ids',ys)→G2 C.S env' w' xs vs→ids <+: ids'∧∀F,ids' <+: F→G2 C.S (envX env env' n F) w' (ys.map (sh1 n)) vs
 | [],ys,ids,ids',vs,he,hg=>by
  cases he
  have:vs=[]:= List.eq_nil_of_length_eq_zero hg.1
  subst this
  exact ⟨List.prefix_refl _,fun F _ => .nil⟩
 | x::xs,ys,ids,ids',vs,he,hg=>by
  obtain ⟨u,us,rfl,g1,g2⟩:= hg.uncons
  simp only [expL1] at he
  obtain ⟨p1,q1⟩:= exp1_sound (env:=env) (n:=n) hS hI (ids:=ids) (ids':=(exp1 H' ids x).1) (y:=(exp1 H' ids x).2) rfl g1
  obtain ⟨p2,q2⟩:= expL1_sound hS hI xs (expL1 H' (exp1 H' ids x).1 xs).2 (exp1 H' ids x).1 (expL1 H' (exp1 H' ids x).1 xs).1 us rfl g2
  cases he
  exact ⟨p1.trans p2,fun F hF=>(q2 F hF).cons (q1 F (p2.trans hF))⟩
theorem exp2_sound (hS:SigOk C.S) (hI:Inv C.S B env' w' H') {x:AV C.S.El} {v:Value} (hx:Γ C.S env' w' x v): Γ C.S (envX env env' n (exp2 H' x).1) w' (sh2 n (exp2 H' x).2) v:=by
 cases x
 case tup cs =>
  obtain ⟨vs,rfl,hvs⟩:= hx.untup
  obtain ⟨_,q⟩:= expL1_sound (env:=env) (n:=n) hS hI cs (expL1 H' [] cs).2 [] (expL1 H' [] cs).1 vs.toList rfl hvs
  have:=q _ (List.prefix_refl _)
  simp only [exp2,sh2]
  exact .tup _ _ (by simpa using this.1) this.2
 all_goals
  simp only [exp2]
  rw [exp1_flat]
  exact (exp1_sound (env:=env) (n:=n) hS hI rfl hx).2 _ (List.prefix_refl _)
def IdsOk (H:List (AObj C.S.El)) (ids:List Nat): Prop:=ids.Nodup∧∀i∈ids,∃t xs,obj H i = .row t xs
theorem exp0_ids {H:List (AObj C.S.El)} {ids:List Nat} (x:AV C.S.El) (h:IdsOk H ids): IdsOk H (exp0 H ids x).1:=by
 cases x <;> simp only [exp0] <;> try exact h
 rename_i i
 cases hobj:obj H i with
 | row t xs =>
  simp only []
  cases hc:ids.contains i
  ·rw [cond_false]
   have hni:i∉ids:=by intro hm;rw [List.contains_iff_mem.2 hm] at hc;cases hc
   refine ⟨List.nodup_append.2 ⟨h.1,by simp, ?_⟩,fun j hj=>?_⟩
   ·intro a ha b hb;simp only [List.mem_singleton] at hb;subst hb;exact fun e=>hni (e ▸ ha)
   ·rcases List.mem_append.1 hj with hj | hj
    ·exact h.2 j hj
    ·simp only [List.mem_singleton] at hj;subst hj;exact ⟨t,xs,hobj⟩
  ·rw [cond_true];exact h
 | _=>exact h
theorem expL_ids {H:List (AObj C.S.El)}: ∀(xs:List (AV C.S.El)) {ids:List Nat},IdsOk H ids→IdsOk H (expL H ids xs).1
 | [],ids,h=>h
 | x::xs,ids,h=>expL_ids xs (exp0_ids x h)
theorem exp1_ids {H:List (AObj C.S.El)} {ids:List Nat} (x:AV C.S.El) (h:IdsOk H ids): IdsOk H (exp1 H ids x).1:=by
 cases x
 case agg cs=>exact expL_ids cs h
 all_goals exact exp0_ids _ h
theorem expL1_ids {H:List (AObj C.S.El)}: ∀(xs:List (AV C.S.El)) {ids:List Nat},IdsOk H ids→IdsOk H (expL1 H ids xs).1
 | [],ids,h=>h
 | x::xs,ids,h=>expL1_ids xs (exp1_ids x h)
theorem exp2_ids {H:List (AObj C.S.El)} (x:AV C.S.El): IdsOk H (exp2 H x).1:=by
 have h0:IdsOk H []:= ⟨List.nodup_nil,by simp⟩
 cases x
 case tup cs=>exact expL1_ids cs h0
 all_goals exact exp1_ids _ h0
theorem Inv.protect (hI:Inv C.S B env w H') (c:Nat) (h1:B≤c) (h2:c < w.heap.size) (h3 : ∀j u,live (obj H' j)= true→env.val j=some u→blkV u≠some c):
  Inv C.S B ⟨env.val,fun b o=>env.prot b o∨b=c⟩ w H'∧Ext B H'.length env w ⟨env.val,fun b o=>env.prot b o∨b=c⟩ w:=by
 have hE:Ext B H'.length env w ⟨env.val,fun b o=>env.prot b o∨b=c⟩ w:=⟨Below.refl _ _,fun _ _ _ h=>h,fun _ _ h => .inl h,fun _ _ _=>rfl,fun b o h=>h.imp id fun h=>by rw [h];exact h1⟩
 refine ⟨hI.ext hE (fun _ _ h=>h) (fun _ _ _ _ _ _=>rfl) (fun i u b o e1 e2 e3 hp=>?_) (fun b o hp=>?_),hE⟩
 ·rcases hp with hp | rfl
  ·exact hp
  ·exact absurd e3 (h3 i u e1 e2)
 ·rcases hp with hp | rfl
  ·exact hI.inheap b o hp
  ·exact h2
theorem freezeAll_mp {i:Nat} {k:IntKind} {ks:List Int} {vs:List (AV C.S.El)}: ∀(l:List Nat) (H:List (AObj C.S.El)),obj H i = .mp k ks vs→obj (freezeAll H l) i = .mp k ks vs
 | [],H,h=>h
 | j::l,H,h=>by
  refine freezeAll_mp l (freeze1 H j) ?_
  rw [freeze1_obj,h]
  split <;> rfl
theorem fit0_sound {x r:AV C.S.El} {v:Value} (h:Γ C.S env w r v): Γ C.S env w (fit0 x r) v:=by
 unfold fit0
 split
 ·cases h.unv;exact .slnil _ _
 ·exact h.unfull
 ·exact h
theorem fitL_sound : ∀(xs rs:List (AV C.S.El)) (vs:List Value),G2 C.S env w rs vs→G2 C.S env w (fitL xs rs) vs
 | [],rs,vs,h=>by cases rs <;> simpa [fitL] using h
 | x::xs,[],vs,h=>by simpa [fitL] using h
 | x::xs,r::rs,vs,h=>by
  obtain ⟨u,us,rfl,h1,h2⟩:= h.uncons
  exact (fitL_sound xs rs us h2).cons (fit0_sound h1)
theorem fit1_sound {x r:AV C.S.El} {v:Value} (h:Γ C.S env w r v): Γ C.S env w (fit1 x r) v:=by
 unfold fit1
 split
 ·obtain ⟨vs,rfl,hvs⟩:= h.unagg
  exact G2.agg (fitL_sound _ _ _ hvs)
 ·exact fit0_sound h
theorem fitL1_sound : ∀(xs rs:List (AV C.S.El)) (vs:List Value),G2 C.S env w rs vs→G2 C.S env w (fitL1 xs rs) vs
 | [],rs,vs,h=>by cases rs <;> simpa [fitL1] using h
 | x::xs,[],vs,h=>by simpa [fitL1] using h
 | x::xs,r::rs,vs,h=>by
  obtain ⟨u,us,rfl,h1,h2⟩:= h.uncons
  exact (fitL1_sound xs rs us h2).cons (fit1_sound h1)
theorem freezeMap (hS:SigOk C.S) (hI:Inv C.S B env w H') {i:Nat} {k:IntKind} {ks:List Int} {vs:List (AV C.S.El)} (hobj:obj H' i = .mp k ks vs) {v:Value} (ws:List (AV C.S.El)) (h:Γ C.S env w (.gm i) v):
  ∃env2,Γ C.S env2 w (.fm k ks (fitL1 ws (vs.map (deref1 H')))) v∧Inv C.S B env2 w (setN (freezeAll H' (vs.flatMap owns1)) i .gone)∧Ext B H'.length env w env2 w∧H'.length≤(setN (freezeAll H' (vs.flatMap owns1)) i .gone).length:=by
 obtain ⟨e1,v1,I1,E1,l1,f1⟩:= freezeAll_sound hS (vs.flatMap owns1) env H' hI
 have hob:=freezeAll_mp (vs.flatMap owns1) H' hobj
 have hi:i < (freezeAll H' (vs.flatMap owns1)).length:=obj_lt (by rw [hob];simp)
 cases h with | gm _ b hv =>
 have hv1:e1.val i=some (.map (some b)):= by rw [v1];exact hv
 have ho:=I1.objs i
 rw [hob] at ho
 obtain ⟨b',es,ck,q1,hB,hb,hkeys,hvals⟩:= ho
 rw [hv1] at q1;cases q1
 have hg:G2 C.S e1 w (vs.map (deref1 H')) (es.toList.map (·.val)):= by
  have e:vs.map (deref1 H')= vs.map (deref1 (freezeAll H' (vs.flatMap owns1))):= by
   refine List.map_congr_left fun x _=>?_
   have hd:deref (freezeAll H' (vs.flatMap owns1))= deref H':=funext fun x=>freezeAll_deref _ H' x
   cases x <;> simp only [deref1,hd]
  rw [e]
  exact G2.map_av _ _ hvals fun x hx v hv=>deref1_sound I1 hv fun j hj=>f1 j (List.mem_flatMap.2 ⟨x,hx,hj⟩)
 have hgone : ∀j,live (obj (setN (freezeAll H' (vs.flatMap owns1)) i .gone) j)= true→live (obj (freezeAll H' (vs.flatMap owns1)) j)= true∧i≠j:=by
  intro j h
  rw [obj_set _ _ _ _ hi] at h
  by_cases h':i=j
  ·rw [if_pos h'] at h;cases h
  ·rw [if_neg h'] at h;exact ⟨h,h'⟩
 obtain ⟨I2,E2⟩:= (I1.forget i).protect b hB (Array.getElem?_eq_some_iff.1 hb).1 (fun j u hl hu he=>(hgone j hl).2 (I1.apart i j _ u b (by rw [hob];rfl) (hgone j hl).1 hv1 hu rfl he))
 have hlen:(setN (freezeAll H' (vs.flatMap owns1)) i .gone).length=H'.length:=by rw [setN_eq,List.length_set,l1]
 refine ⟨_, ?_,I2,E1.trans (by rw [hlen] at E2;exact E2),by rw [hlen];exact Nat.le_refl _⟩
 have hg2:=fitL1_sound ws _ _ (hg.ext E2 (fun i v h=>by rw [hlen,←l1];exact I1.fresh i v h))
 exact .fm k ks _ b es ck hb (.inr rfl) hkeys (by simpa using hg2.1) hg2.2
theorem Γ.lessfull {u:TypeId} {xs:List (C.S.El u)} {g:Bool} {v:Value} (h:Γ C.S env w (.sl u xs g) v) (f:Bool): Γ C.S env w (.sl u xs (g && f)) v:=by
 cases f
 ·rw [Bool.and_false];exact h.unfull
 ·rw [Bool.and_true];exact h
theorem prep0_sound (hS:SigOk C.S) (hI:Inv C.S B env w H') (news:List (AObj C.S.El)) (x:AV C.S.El) {r:AV C.S.El} {v:Value} (h:Γ C.S env w r v):
  ∃env2,Γ C.S env2 w (prep0 news x r H').1 v∧Inv C.S B env2 w (prep0 news x r H').2∧Ext B H'.length env w env2 w∧H'.length≤(prep0 news x r H').2.length:=by
 have same : ∃env2,Γ C.S env2 w r v∧Inv C.S B env2 w H'∧Ext B H'.length env w env2 w∧H'.length≤H'.length:=⟨env,h,hI,Ext.refl _ _ _ _,Nat.le_refl _⟩
 unfold prep0
 split
 ·split
  ·split
   ·rename_i k _ t xs hn
    cases h.unv
    obtain ⟨h1,h2⟩:= push_obj (w':=w) (u:=.slice none 0 0) (o:=.row t []) hI (Below.refl _ _) (fun _ _ _=>rfl) (fun _ _ _ _ _ _=>rfl) (fun b hb=>by cases hb)
     ⟨_,[],rfl,⟨by simp, .inl ⟨rfl,rfl⟩⟩,fun i j hi=>by simp at hi⟩
    exact ⟨_, .gs _ none 0 0 (by simp),h1,h2,by simp⟩
   ·exact same
  ·exact same
 ·split
  ·cases h.unv
   exact ⟨env, .slnil _ _,hI,Ext.refl _ _ _ _,Nat.le_refl _⟩
  ·skip
   exact ⟨env,h.lessfull _,hI,Ext.refl _ _ _ _,Nat.le_refl _⟩
  ·rename_i i
   split
   ·rename_i u xs hobj
    obtain ⟨e1,v1,I1,E1,l1⟩:= freeze_one hS hI i
    have hd:=deref_sound I1 (h.ext E1 hI.fresh) (fun j hj t ys=>by
     simp only [owns,List.mem_singleton] at hj
     subst hj
     rw [freeze1_obj,if_pos rfl,hobj];simp)
    simp only [deref,freeze1_obj,if_true,hobj] at hd
    exact ⟨e1,hd,I1,E1,by rw [l1];exact Nat.le_refl _⟩
   ·rename_i u xs hobj
    have hd:=deref_sound hI h (fun j hj t ys=>by
     simp only [owns,List.mem_singleton] at hj
     subst hj
     rw [hobj];simp)
    simp only [deref,hobj] at hd
    exact ⟨env,hd,hI,Ext.refl _ _ _ _,Nat.le_refl _⟩
   ·exact same
  ·exact same
 ·split
  ·split
   ·rename_i hobj
    exact freezeMap hS hI hobj _ h
   ·exact same
  ·exact same
 ·exact same
theorem prepL_sound (hS:SigOk C.S) (news:List (AObj C.S.El)): ∀(xs rs:List (AV C.S.El)) (H':List (AObj C.S.El)) (env:Env) (vs:List Value),Inv C.S B env w H'→G2 C.S env w rs vs→
  ∃env2,G2 C.S env2 w (prepL news xs rs H').1 vs∧Inv C.S B env2 w (prepL news xs rs H').2∧Ext B H'.length env w env2 w∧H'.length≤(prepL news xs rs H').2.length
 | [],rs,H',env,vs,hI,hg=>by
  have:prepL news [] rs H'=(rs,H'):= by cases rs <;> rfl
  rw [this]
  exact ⟨env,hg,hI,Ext.refl _ _ _ _,Nat.le_refl _⟩
 | x::xs,[],H',env,vs,hI,hg=>⟨env,hg,hI,Ext.refl _ _ _ _,Nat.le_refl _⟩
 | x::xs,r::rs,H',env,vs,hI,hg=>by
  obtain ⟨u,us,rfl,g1,g2⟩:= hg.uncons
  obtain ⟨e1,q1,I1,E1,l1⟩:= prep0_sound hS hI news x g1
  obtain ⟨e2,q2,I2,E2,l2⟩:= prepL_sound hS news xs rs _ e1 us I1 (g2.ext E1 hI.fresh)
  exact ⟨e2,q2.cons (q1.ext E2 I1.fresh),I2,E1.trans (E2.mono l1),Nat.le_trans l1 l2⟩
theorem prep1_sound (hS:SigOk C.S) (hI:Inv C.S B env w H') (news:List (AObj C.S.El)) (x:AV C.S.El) {r:AV C.S.El} {v:Value} (h:Γ C.S env w r v):
  ∃env2,Γ C.S env2 w (prep1 news x r H').1 v∧Inv C.S B env2 w (prep1 news x r H').2∧Ext B H'.length env w env2 w∧H'.length≤(prep1 news x r H').2.length:=by
 unfold prep1
 split
 ·obtain ⟨vs,rfl,hvs⟩:= h.unagg
  obtain ⟨e2,q1,q2,q3,q4⟩:= prepL_sound hS news _ _ H' env vs.toList hI hvs
  exact ⟨e2,G2.agg q1,q2,q3,q4⟩
 ·exact prep0_sound hS hI news _ h
theorem prepL1_sound (hS:SigOk C.S) (news:List (AObj C.S.El)): ∀(xs rs:List (AV C.S.El)) (H':List (AObj C.S.El)) (env:Env) (vs:List Value),Inv C.S B env w H'→G2 C.S env w rs vs→
  ∃env2,G2 C.S env2 w (prepL1 news xs rs H').1 vs∧Inv C.S B env2 w (prepL1 news xs rs H').2∧Ext B H'.length env w env2 w∧H'.length≤(prepL1 news xs rs H').2.length
 | [],rs,H',env,vs,hI,hg=>by
  have:prepL1 news [] rs H'=(rs,H'):= by cases rs <;> rfl
  rw [this]
  exact ⟨env,hg,hI,Ext.refl _ _ _ _,Nat.le_refl _⟩
 | x::xs,[],H',env,vs,hI,hg=>⟨env,hg,hI,Ext.refl _ _ _ _,Nat.le_refl _⟩
 | x::xs,r::rs,H',env,vs,hI,hg=>by
  obtain ⟨u,us,rfl,g1,g2⟩:= hg.uncons
  obtain ⟨e1,q1,I1,E1,l1⟩:= prep1_sound hS hI news x g1
  obtain ⟨e2,q2,I2,E2,l2⟩:= prepL1_sound hS news xs rs _ e1 us I1 (g2.ext E1 hI.fresh)
  exact ⟨e2,q2.cons (q1.ext E2 I1.fresh),I2,E1.trans (E2.mono l1),Nat.le_trans l1 l2⟩
theorem prep2_sound (hS:SigOk C.S) (hI:Inv C.S B env w H') (news:List (AObj C.S.El)) (x:AV C.S.El) {r:AV C.S.El} {v:Value} (h:Γ C.S env w r v):
  ∃env2,Γ C.S env2 w (prep2 news x r H').1 v∧Inv C.S B env2 w (prep2 news x r H').2∧Ext B H'.length env w env2 w∧H'.length≤(prep2 news x r H').2.length:=by
 unfold prep2
 split
 ·obtain ⟨vs,rfl,hvs⟩:= h.untup
  obtain ⟨e2,q1,q2,q3,q4⟩:= prepL1_sound hS news _ _ H' env vs.toList hI hvs
  exact ⟨e2, .tup _ _ (by simpa using q1.1) q1.2,q2,q3,q4⟩
 ·exact prep1_sound hS hI news _ h
theorem ct_of_inl (hC:CxOk C) {inl:Inl C.S.El} (hin:InlOk C inl) {f:FuncId} {ct:Ct C.S.El} (h : ∀args ps r news,ct args=some (ps,r,news)→(∀p∈ps,p)→inl f args [] fun r' H'=>Gives r' H' r news): CtOk C f ct:=by
 intro args ps r news hct hp hcl B env w H vals hg hI
 have hS:=hC.sig
 let env2:Env:=⟨fun _=>none,env.prot⟩
 have hg2:G2 C.S env2 w args vals:=⟨hg.1,fun j=>by
  have:=hg.2 j
  simp only [List.getD] at this ⊢
  cases hc:args[j]? with
  | none=>simpa using Γ.any (S:=C.S) _
  | some c =>
   rw [hc] at this
   have hc1:=(List.all_eq_true.1 hcl) c (List.mem_of_getElem? hc)
   refine Γ.lt2 (env:=env) (env':=env2) hS (n:=0) (fun i v hi=>by omega) (fun _ _ h=>h) this ?_
   cases c <;> simp_all [lt1,lt2,lt0]⟩
 have hI2:Inv C.S w.heap.size env2 w []:= ⟨fun i=>by simp [obj_nth,ObjOk],fun i v b hl=>by simp [obj_nth,live] at hl,fun i j u v b hl=>by simp [obj_nth,live] at hl,hI.inheap,fun i v h=>by simp [env2] at h,
  fun g=>Γ.lt2 (env:=env) (env':=env2) hS (n:=0) (fun i v hi=>by omega) (fun _ _ h=>h) (hI.glob g) (hS.gl g),Nat.le_refl _⟩
 refine (hin f args [] _ (h args ps r news hct hp) w.heap.size env2 w vals hg2 hI2).mono ?_
 rintro e w' ⟨v,env0,r0,H0,he,⟨hr,hnews⟩,hΓ0,hI0,hE0,_⟩
 obtain ⟨env',hΓ,hI',hE1,_⟩:= prep2_sound hS hI0 news r hΓ0
 have hE:Ext w.heap.size ([]: List (AObj C.S.El)).length env2 w env' w':=(hE0.mono (Nat.zero_le _)).trans (hE1.mono (Nat.zero_le _))
 clear hE0 hE1 hI0 hΓ0
 generalize (prep2 news r r0 H0).2=H' at hΓ hI' hr hnews ⊢
 generalize (prep2 news r r0 H0).1=r' at hΓ hI' hr hnews ⊢
 have hbel:Below w.heap.size w w':=hE.below
 subst hr;subst hnews
 have hX:=exp2_sound (env:=env) (n:=H.length) hS hI' hΓ
 obtain ⟨hnd,hrow⟩:= exp2_ids (C:=C) (H:=H') r'
 generalize (exp2 H' r').1=F at hX hnd hrow ⊢
 have hNi : ∀i v,env.val i=some v→i < H.length:=hI.fresh
 have hEx:Ext B H.length env w (envX env env' H.length F) w':=⟨hbel.mono hI.base,fun i v hi hv=>by simp only [envX];rw [if_pos hi];exact hv,fun b o hp=>hE.prot b o hp,fun b o hp=>hE.keep b o hp,fun b o hp=>(hE.newp b o hp).imp id fun h=>Nat.le_trans hI.base h⟩
 have ho : ∀i,obj (H ++ F.map (obj H')) i=if i < H.length then obj H i else match F[i - H.length]? with | some k=>obj H' k | none => .gone:=by
  intro i
  simp only [obj_nth,List.getElem?_append]
  by_cases h1:i < H.length
  ·rw [if_pos h1,if_pos h1]
  ·rw [if_neg h1,if_neg h1,List.getElem?_map]
   cases F[i - H.length]? <;> simp [obj_nth]
 have hval : ∀i,¬i < H.length→∀v,(envX env env' H.length F).val i=some v→∃k,F[i - H.length]? = some k∧env'.val k=some v:=by
  intro i hi v hv
  simp only [envX] at hv
  rw [if_neg hi] at hv
  simpa [Option.bind_eq_some_iff] using hv
 have hlow : ∀i,i < H.length→(envX env env' H.length F).val i=env.val i:=fun i hi=>by simp only [envX];rw [if_pos hi]
 refine ⟨v,envX env env' H.length F,he,hX,⟨fun i=>?_,fun i u b hl e1 e2 o hpp=>?_,fun i j u u' b hl hl' e1 e2 e3 e4=>?_,fun b o hp=>hI'.inheap b o hp,fun i u hu=>?_,fun g=>(hI.glob g).ext hEx hNi,Nat.le_trans hI.base hbel.size⟩,hEx,hbel⟩
 ·rw [ho]
  by_cases hi:i < H.length
  ·rw [if_pos hi,hlow i hi]
   exact (hI.objs i).ext hEx hNi (fun u b h1 h2 h3=>hbel.block b (live_block hI h1 h2 h3))
  ·rw [if_neg hi]
   cases hF:F[i - H.length]? with
   | none=>trivial
   | some k =>
    obtain ⟨t,xs,hk⟩:= hrow k (List.mem_of_getElem? hF)
    simp only [hk]
    have hok:=hI'.objs k
    rw [hk] at hok
    obtain ⟨u,ws,q1,q2,q3⟩:= hok
    refine ⟨u,ws,by simp only [envX];rw [if_neg hi,hF];exact q1,⟨q2.1,q2.2.imp id ?_⟩,fun a b ha hb=>?_⟩
    ·rintro ⟨g,cap,cur,fz,bo,r1,r2,r3⟩
     exact ⟨g,cap,cur,fz,bo,r1,Nat.le_trans hI.base r2,r3⟩
    ·refine closed0 hS (q3 a b ha hb) ?_
     have hgm : ∀(cs:List (AV C.S.El)) j,j < cs.length→cs.getD j .any∈cs:=fun cs j hj=>by rw [List.getD,List.getElem?_eq_getElem hj];exact List.getElem_mem _
     exact (hS.flat t _ _ (hgm _ _ (by rw [hS.len];exact hb))).1
 ·rw [ho] at hl
  by_cases hi:i < H.length
  ·rw [if_pos hi] at hl
   rw [hlow i hi] at e1
   rcases hE.newp b o hpp with h1 | h1
   ·exact hI.free i u b hl e1 e2 o h1
   ·have:=live_block hI e1 e2 hl;omega
  ·rw [if_neg hi] at hl
   obtain ⟨k,hk,hv⟩:= hval i hi u e1
   rw [hk] at hl
   exact hI'.free k u b hl hv e2 o hpp
 ·rw [ho] at hl hl'
  by_cases hi:i < H.length <;> by_cases hj:j < H.length
  ·rw [if_pos hi] at hl
   rw [if_pos hj] at hl'
   rw [hlow i hi] at e1
   rw [hlow j hj] at e2
   exact hI.apart i j u u' b hl hl' e1 e2 e3 e4
  ·rw [if_pos hi] at hl
   rw [if_neg hj] at hl'
   rw [hlow i hi] at e1
   obtain ⟨k,hk,hv⟩:= hval j hj u' e2
   rw [hk] at hl'
   have h1:=live_block hI e1 e3 hl
   obtain ⟨t,xs,hkk⟩:= hrow k (List.mem_of_getElem? hk)
   have hok:=hI'.objs k
   rw [hkk] at hok
   obtain ⟨u2,ws,q1,q2,q3⟩:= hok
   rw [hv] at q1;cases q1
   rcases q2.2 with ⟨q4,_⟩| ⟨g,cap,cur,fz,bo,q4,q5,_⟩
   ·rw [q4] at e4;cases e4
   ·rw [q4] at e4;cases e4;have h1':g < w.heap.size:=h1;omega
  ·rw [if_neg hi] at hl
   rw [if_pos hj] at hl'
   rw [hlow j hj] at e2
   obtain ⟨k,hk,hv⟩:= hval i hi u e1
   have h1:=live_block hI e2 e4 hl'
   obtain ⟨t,xs,hkk⟩:= hrow k (List.mem_of_getElem? hk)
   have hok:=hI'.objs k
   rw [hkk] at hok
   obtain ⟨u2,ws,q1,q2,q3⟩:= hok
   rw [hv] at q1;cases q1
   rcases q2.2 with ⟨q4,_⟩| ⟨g,cap,cur,fz,bo,q4,q5,_⟩
   ·rw [q4] at e3;cases e3
   ·rw [q4] at e3;cases e3;have h1':g < w.heap.size:=h1;omega
  ·rw [if_neg hi] at hl
   rw [if_neg hj] at hl'
   obtain ⟨k,hk,hv⟩:= hval i hi u e1
   obtain ⟨k',hk',hv'⟩:= hval j hj u' e2
   rw [hk] at hl
   rw [hk'] at hl'
   have:=hI'.apart k k' u u' b hl hl' hv hv' e3 e4
   subst this
   have h1:=(List.getElem?_eq_some_iff.1 hk)
   have h2:=(List.getElem?_eq_some_iff.1 hk')
   have:=(List.getElem_inj (h₀:=h1.1) (h₁:=h2.1) hnd).1 (h1.2.trans h2.2.symm)
   omega
 ·by_cases hi:i < H.length
  ·simp;omega
  ·obtain ⟨k,hk,_⟩:= hval i hi u hu
   have:=(List.getElem?_eq_some_iff.1 hk).1
   simp;omega
theorem ct_of_fun (hC:CxOk C) {f:FuncId} {ct:Ct C.S.El} (fuel:Nat) (h : ∀args ps r news,ct args=some (ps,r,news)→(∀p∈ps,p)→evFun C fuel f args [] fun r' H'=>Gives r' H' r news): CtOk C f ct:=ct_of_inl hC (evFun_sound hC fuel).1 h
end
def fstC:Code→Code
 | .seq a _=>a
 | .cond _ a _=>a
 | .block _ b=>b
 | .loop b=>b
 | c=>c
def sndC:Code→Code
 | .seq _ b=>b
 | .cond _ _ b=>b
 | c=>c
def seqK (C:Cx) (inl:Inl C.S.El) (b:Code) (K:AExit→St C.S.El→Prop): AExit→St C.S.El→Prop:=fun e st'=>match e with
 | .normal=>evCode C inl b st' K
 | e=>K e st'
def blockK (C:Cx) (id:Nat) (K:AExit→St C.S.El→Prop): AExit→St C.S.El→Prop:=fun e st'=>match e with
 | .exit i=>bif Nat.beq i id then K .normal st' else K (.exit i) st'
 | e=>K e st'
theorem ev_loop {C:Cx} {inl:Inl C.S.El} {b:Code} (hu:unr C b=0) {st:St C.S.El} {K:AExit→St C.S.El→Prop} (I:Nat→St C.S.El→Prop) (n:Nat) (s0:St C.S.El) (h1:I n s0) (h2:stGe st s0)
  (h3 : ∀n s,I n s→evCode C inl b s fun e s'=>match e with
    | .normal => ∃m s'',m < n∧I m s''∧stGe s' s''
    | e=>K e s'): evCode C inl (.loop b) st K:=by
 unfold evCode
 rw [hu]
 exact ⟨I,n,s0,h1,h2,h3⟩
end Go.Aw
