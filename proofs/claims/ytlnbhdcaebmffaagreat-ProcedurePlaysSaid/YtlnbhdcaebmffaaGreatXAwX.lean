/-
  Contracts of callees: own slices that are handed on are written no more; calls (own work).
-/
import Derived.Test.YtlnbhdcaebmffaaGreatXAwW
import Derived.Laws.BytesString
set_option linter.unusedSimpArgs false
set_option linter.unusedVariables false
namespace Go.Aw
open Go.RowKit
def Plain (P : Program) (f : FuncId): Prop := ∃fn,P.funcs[f]? = some fn∧(fn.name == "runtime.NumGoroutine")= false∧fn.body.isNone = false
def CtOk (C:Cx) (f:FuncId) (ct:Ct C.S.El): Prop :=
 ∀args ps r news,ct args=some (ps,r,news)→(∀p∈ps,p)→args.all (lt1 0)= true→∀(B:Nat) (env:Env) (w:World) (H:List (AObj C.S.El)) (vals:List Value),G2 C.S env w args vals→Inv C.S B env w H→
  Calls C.P f vals.toArray w fun e w' => ∃v env',e = .returned v∧Γ C.S env' w' (sh2 H.length r) v∧Inv C.S B env' w' (H ++ news)∧Ext B H.length env w env' w'∧Below w.heap.size w w'
def SumOk (P:Program) (S:Sig) (f:FuncId) (args:List (AV S.El)) (H:List (AObj S.El)) (ps:List Prop) (r:AV S.El) (H':List (AObj S.El)): Prop :=
 Plain P f∧((∀p∈ps,p)→∀(B:Nat) (env:Env) (w:World) (vals:List Value),G2 S env w args vals→Inv S B env w H→
  Calls P f vals.toArray w fun e w' => ∃v env',e = .returned v∧Γ S env' w' r v∧Inv S B env' w' H'∧Ext B H.length env w env' w'∧H.length≤H'.length)
structure CxOk (C:Cx): Prop where
 sig:SigOk C.S
 ct : ∀f ct,C.T f=some ct→CtOk C f ct
 plainT : ∀f ct,C.T f=some ct→Plain C.P f
 fn : ∀f fn,C.F f = some fn→C.P.funcs[f]? = some fn∧(fn.name == "runtime.NumGoroutine")= false
 mixed:C.P.follows .mixedOrders=true
 sum : ∀f args H ps r H',C.I f args H=some (ps,r,H')→SumOk C.P C.S f args H ps r H'
 poly : ∀f q,C.Q f=some q→∃ct,CtOk C f ct∧Plain C.P f∧∀ad:Addr,ct [.v (.pointer (some ad))]= some ([],mapClo q (.v (.pointer (some ad))),[])
section
variable {C:Cx} {env:Env} {w:World} {B:Nat} {H:List (AObj C.S.El)}
theorem run_call {c:Call} {o:Oper} {e:Operand→Value} {x:Operand} {f:FuncId} {fs vs:Array Value} (ho:o.op = .call c) (hc:c.callee = .value x) (hx:e x = .func (.func f) fs vs) (hp:Plain C.P f):
  (execOp e o).run C.P w = .ok (.enter f (fs ++ (c.args.map e ++ vs))) w:=by
 obtain ⟨fn,h1,h2,h3⟩:= hp
 have h2' : ¬fn.name = "runtime.NumGoroutine" := by simpa using h2
 have h3' : ¬fn.body=none:=by intro h;rw [h] at h3;cases h3
 simp [execOp,ho,resolve,hc,hx,Deferred.ofValue,invoke,callFunc,h1,h2',h3']
theorem G2.single {S:Sig} {env:Env} {w:World} {c:AV S.El} {v:Value} (h:Γ S env w c v): G2 S env w [c] [v]:= G2.nil.cons h
theorem G2.map_ops {S:Sig} {env:Env} {w:World} {rho:Operand→AV S.El} {e:Operand→Value}: ∀(l:List Operand),(∀x∈l,Γ S env w (rho x) (e x))→G2 S env w (l.map rho) (l.map e)
 | [],_ => .nil
 | x::l,h=>(G2.map_ops l fun y hy=>h y (by simp [hy])).cons (h x (by simp))
theorem obj_set (H:List (AObj C.S.El)) (i j:Nat) (o:AObj C.S.El) (hi:i < H.length): obj (setN H i o) j=if i=j then o else obj H j:=by
 simp only [obj_nth,setN_eq,List.getElem?_set]
 by_cases h:i=j
 ·subst h;simp [hi]
 ·simp [h]
theorem obj_lt {H:List (AObj C.S.El)} {i:Nat} (h:obj H i≠ .gone): i < H.length:=by
 rw [obj_nth] at h
 by_cases hl:i < H.length
 ·exact hl
 ·rw [List.getElem?_eq_none (by omega)] at h;exact absurd rfl h
theorem row_sl {env':Env} {t:TypeId} {xs:List (C.S.El t)} {u:Value} {ws:List Value} (h:OwnsR w B t (C.S.sz t) u xs.length ws) (hg : ∀i j,i < xs.length→j < C.S.sz t→Γ C.S env' w ((C.S.cell t (xs.getD i (C.S.dflt t))).getD j .any) (ws.getD (i*C.S.sz t+j) undef))
  (hS:SigOk C.S) (hp : ∀g k,blkV u=some g→env'.prot g k): Γ C.S env' w (.sl t xs false) u:=by
 obtain ⟨hl,h2⟩:= h
 rcases h2 with ⟨rfl,h0⟩| ⟨g,cap,cur,fz,bo,rfl,_,h4,h5,h6',h6,h7,_⟩
 ·have:xs=[]:= List.eq_nil_of_length_eq_zero h0
  subst this
  exact .slnil t false
 ·refine .sl t xs false g bo cap (fun k=>ws.getD k undef) (by simp) ⟨h5,by simp only [maxLen] at h6';omega⟩ (fun k hk=>⟨?_, ?_⟩) (fun i j hi=>?_)
  ·have hk':k < ws.length:=by omega
   simp only [World.cell?,h4]
   subst h7
   simp only [List.length_take,List.length_drop,Array.length_toList] at hk'
   have hk2:bo+k < cur.size:=by omega
   simp only [List.getD,List.getElem?_take]
   rw [if_pos hk,List.getElem?_drop]
   simp [hk2]
  ·exact hp g (bo+k) rfl
  ·by_cases hj:j < C.S.sz t
   ·exact hg i j hi hj
   ·have:(C.S.cell t (xs.getD i (C.S.dflt t))).getD j AV.any = .any:=by
     have:=hS.len t (xs.getD i (C.S.dflt t))
     generalize C.S.cell t (xs.getD i (C.S.dflt t))= cs at this ⊢
     rw [List.getD,List.getElem?_eq_none (by omega)];rfl
    rw [this];exact .any _
theorem freeze_one (hS:SigOk C.S) (hI:Inv C.S B env w H) (i:Nat): ∃env',env'.val=env.val∧Inv C.S B env' w (freeze1 H i)∧Ext B H.length env w env' w∧(freeze1 H i).length=H.length:=by
 unfold freeze1
 cases hobj:obj H i with
 | row t xs =>
  have hi:i < H.length:=obj_lt (by rw [hobj];simp)
  have ho:=hI.objs i
  rw [hobj] at ho
  obtain ⟨u,ws,h1,h2,h3⟩:= ho
  let env':Env:=⟨env.val,fun b o=>env.prot b o∨(blkV u=some b∧True)⟩
  have hBb : ∀b,blkV u=some b→B≤b∧b < w.heap.size:=by
   intro b hb
   refine ⟨?_,live_block hI h1 hb (by rw [hobj];rfl)⟩
   rcases h2.2 with ⟨e,_⟩| ⟨g,cap,cur,fz,bo,e,e2,_⟩
   ·rw [e] at hb;cases hb
   ·rw [e] at hb;cases hb;exact e2
  have hE:Ext B H.length env w env' w:=⟨Below.refl _ _,fun _ _ _ h=>h,fun _ _ h => .inl h,fun _ _ _=>rfl,fun b o h=>h.imp id fun h=>(hBb b h.1).1⟩
  refine ⟨env',rfl, ?_,hE,by show (setN H i _).length=_;rw [setN_eq,List.length_set]⟩
  show Inv C.S B env' w (setN H i (.frozen t xs))
  have hN : ∀i v,env.val i=some v→i < H.length:=hI.fresh
  refine ⟨fun j=>?_,fun j v b hl h4 h5 o hp=>?_,fun j k v v' b hl hl' h4 h5 h6 h7=>?_,fun b o hp=>?_,fun j v h=>by rw [setN_eq,List.length_set];exact hI.fresh j v h,fun g=>(hI.glob g).ext hE hN,hI.base⟩
  ·rw [obj_set _ _ _ _ hi]
   by_cases hij:i=j
   ·subst hij
    rw [if_pos rfl]
    exact ⟨u,h1,row_sl h2 (fun i j hi hj=>(h3 i j hi hj).ext hE hN) hS (fun g k hg => .inr ⟨hg,trivial⟩)⟩
   ·rw [if_neg hij]
    exact (hI.objs j).ext hE hN (fun _ _ _ _ _=>rfl)
  ·rw [obj_set _ _ _ _ hi] at hl
   by_cases hij:i=j
   ·subst hij;rw [if_pos rfl] at hl;cases hl
   ·rw [if_neg hij] at hl
    rcases hp with hp | ⟨hp,_⟩
    ·exact hI.free j v b hl h4 h5 o hp
    ·exact hij (hI.apart i j u v b (by rw [hobj];rfl) hl h1 h4 hp h5)
  ·rw [obj_set _ _ _ _ hi] at hl hl'
   split at hl
   ·cases hl
   ·split at hl'
    ·cases hl'
    ·exact hI.apart j k v v' b hl hl' h4 h5 h6 h7
  ·rcases hp with hp | ⟨hp,_⟩
   ·exact hI.inheap b o hp
   ·exact (hBb b hp).2
 | _=>exact ⟨env,rfl,hI,Ext.refl _ _ _ _,rfl⟩
theorem freeze1_obj (H:List (AObj C.S.El)) (i j:Nat): obj (freeze1 H i) j=if i=j then (match obj H j with | .row t xs => .frozen t xs | o=>o) else obj H j:=by
 unfold freeze1
 cases hobj:obj H i with
 | row t xs =>
  have hi:i < H.length:=obj_lt (by rw [hobj];simp)
  rw [obj_set _ _ _ _ hi]
  by_cases h:i=j
  ·subst h;simp [hobj]
  ·simp [h]
 | _ =>
  by_cases h:i=j
  ·subst h;simp [hobj]
  ·simp [h]
theorem freezeAll_deref : ∀(l:List Nat) (H:List (AObj C.S.El)) (x:AV C.S.El),deref (freezeAll H l) x=deref H x
 | [],H,x=>rfl
 | i::l,H,x=>by
  rw [freezeAll,List.foldl_cons]
  show deref (freezeAll (freeze1 H i) l) x=_
  rw [freezeAll_deref l]
  cases x <;> simp only [deref]
  rename_i j
  rw [freeze1_obj]
  by_cases h:i=j
  ·subst h;rw [if_pos rfl];cases obj H i <;> rfl
  ·rw [if_neg h]
theorem freezeAll_sound (hS:SigOk C.S): ∀(l:List Nat) (env:Env) (H:List (AObj C.S.El)),Inv C.S B env w H→∃env',env'.val=env.val∧Inv C.S B env' w (freezeAll H l)∧Ext B H.length env w env' w∧(freezeAll H l).length=H.length∧(∀i∈l,∀t xs,obj (freezeAll H l) i≠ .row t xs)
 | [],env,H,hI=>⟨env,rfl,hI,Ext.refl _ _ _ _,rfl,by simp⟩
 | i::l,env,H,hI=>by
  obtain ⟨e1,v1,I1,E1,l1⟩:= freeze_one hS hI i
  obtain ⟨e2,v2,I2,E2,l2,f2⟩:= freezeAll_sound hS l e1 (freeze1 H i) I1
  refine ⟨e2,v2.trans v1,I2,E1.trans (by rw [l1] at E2;exact E2),l2.trans l1,fun j hj t xs=>?_⟩
  rcases List.mem_cons.1 hj with rfl | hj
  ·show obj (freezeAll (freeze1 H j) l) j≠_
   have : ∀(l:List Nat) (H:List (AObj C.S.El)),(∀t xs,obj H j≠ .row t xs)→∀t xs,obj (freezeAll H l) j≠ .row t xs:=by
    intro l
    induction l with
    | nil=>exact fun H h=>h
    | cons k l ih =>
     intro H h
     refine ih _ (fun t xs=>?_)
     rw [freeze1_obj]
     split
     ·cases hobj:obj H j with
      | row t xs=>exact absurd hobj (h t xs)
      | _=>simp
     ·exact h t xs
   refine this l _ (fun t xs=>?_) t xs
   rw [freeze1_obj,if_pos rfl]
   cases obj H j <;> simp
  ·exact f2 j hj t xs
theorem deref_sound (hI:Inv C.S B env w H) {x:AV C.S.El} {v:Value} (hx:Γ C.S env w x v) (h : ∀i∈owns x,∀t xs,obj H i≠ .row t xs): Γ C.S env w (deref H x) v:=by
 cases x <;> simp only [deref] <;> try exact hx
 rename_i i
 cases hobj:obj H i with
 | row t xs=>exact absurd hobj (h i (by simp [owns]) t xs)
 | frozen t xs =>
  cases hx with | gs _ a n c hv =>
  have ho:=hI.objs i
  rw [hobj] at ho
  obtain ⟨u,h1,h2⟩:= ho
  rw [hv] at h1;cases h1
  exact h2
 | _=>exact .any _
theorem G2.map_av {S:Sig} {env:Env} {w:World} {f:AV S.El→AV S.El}: ∀(cs:List (AV S.El)) (vs:List Value),G2 S env w cs vs→(∀c∈cs,∀v,Γ S env w c v→Γ S env w (f c) v)→G2 S env w (cs.map f) vs
 | [],vs,h,_=>by simpa using h
 | c::cs,vs,h,hf=>by
  obtain ⟨u,us,rfl,h1,h2⟩:= h.uncons
  exact (G2.map_av cs us h2 fun c hc=>hf c (by simp [hc])).cons (hf c (by simp) u h1)
theorem deref1_sound (hI:Inv C.S B env w H) {x:AV C.S.El} {v:Value} (hx:Γ C.S env w x v) (h : ∀i∈owns1 x,∀t xs,obj H i≠ .row t xs): Γ C.S env w (deref1 H x) v:=by
 cases x
 case agg cs =>
  obtain ⟨vs,rfl,hvs⟩:= hx.unagg
  exact G2.agg (G2.map_av cs _ hvs fun c hc v hv=>deref_sound hI hv fun i hi=>h i (by simp only [owns1,List.mem_flatMap];exact ⟨c,hc,hi⟩))
 all_goals exact deref_sound hI hx (by simpa [owns1] using h)
theorem Γ.unfull {u:TypeId} {xs:List (C.S.El u)} {f:Bool} {v:Value} (h:Γ C.S env w (.sl u xs f) v): Γ C.S env w (.sl u xs false) v:=by
 cases h with
 | sl _ _ _ b off cap val hf hc hw h=>exact .sl u xs false b off cap val (by simp) hc hw h
 | slnil=>exact .slnil u false
 | slemp _ _ a cap hf=>exact .slemp u false a cap (by simp)
theorem norm0_sound (t:TypeId) {x:AV C.S.El} {v:Value} (h:Γ C.S env w x v): Γ C.S env w (norm0 C.P t x) v:=by
 unfold norm0
 split
 ·cases h.unv
  split
  ·exact .slnil _ _
  ·exact .v _
 ·exact h.unfull
 ·exact h
theorem normL_sound : ∀(ts:List TypeId) (cs:List (AV C.S.El)) (vs:List Value),G2 C.S env w cs vs→G2 C.S env w (normL C.P ts cs) vs
 | [],cs,vs,h=>by cases cs <;> simpa [normL] using h
 | t::ts,[],vs,h=>by simpa [normL] using h
 | t::ts,c::cs,vs,h=>by
  obtain ⟨u,us,rfl,h1,h2⟩:= h.uncons
  exact (normL_sound ts cs us h2).cons (norm0_sound t h1)
theorem nilA_sound (t:TypeId) {x:AV C.S.El} {v:Value} (h:Γ C.S env w x v): Γ C.S env w (nilA C.P t x) v:=by
 unfold nilA
 split
 ·split
  ·obtain ⟨vs,rfl,hvs⟩:= h.unagg
   exact G2.agg (normL_sound _ _ _ hvs)
  ·exact h
 ·exact norm0_sound t h
theorem nilAll_sound : ∀(ts:List TypeId) (cs:List (AV C.S.El)) (vs:List Value),G2 C.S env w cs vs→G2 C.S env w (nilAll C.P ts cs) vs
 | [],cs,vs,h=>by cases cs <;> simpa [nilAll] using h
 | t::ts,[],vs,h=>by simpa [nilAll] using h
 | t::ts,c::cs,vs,h=>by
  obtain ⟨u,us,rfl,h1,h2⟩:= h.uncons
  exact (nilAll_sound ts cs us h2).cons (nilA_sound t h1)
theorem args_sound (hS:SigOk C.S) (hI:Inv C.S B env w H) (c:Call) {args:List (AV C.S.El)} {vals:List Value} (hg:G2 C.S env w args vals):
  ∃env',env'.val=env.val∧Inv C.S B env' w (freezeAll H (args.flatMap owns1))∧Ext B H.length env w env' w∧(freezeAll H (args.flatMap owns1)).length=H.length∧G2 C.S env' w (argsA C.P c H args) vals:=by
 obtain ⟨env',h1,h2,h3,h4,h5⟩:= freezeAll_sound hS (args.flatMap owns1) env H hI
 refine ⟨env',h1,h2,h3,h4,nilAll_sound _ _ _ ?_⟩
 have e:args.map (deref1 H)= args.map (deref1 (freezeAll H (args.flatMap owns1))):= by
  refine List.map_congr_left fun x _=>?_
  have hd:deref (freezeAll H (args.flatMap owns1))= deref H:=funext fun x=>freezeAll_deref _ H x
  cases x <;> simp only [deref1,hd]
 rw [e]
 refine G2.map_av _ _ (hg.ext h3 hI.fresh) fun x hx v hv=>deref1_sound h2 hv fun i hi=>h5 i (List.mem_flatMap.2 ⟨x,hx,hi⟩)
theorem read_sl (hS:SigOk C.S) (hI:Inv C.S B env w H) {x:AV C.S.El} {v:Value} {u:TypeId} {ys:List (C.S.El u)} {f:Bool} (hd:deref H x = .sl u ys f) (hx:Γ C.S env w x v):
  ∃a cap news,v = .slice a ys.length cap∧RowG C env w u ys news∧(a=none→ys=[])∧(∀ad,a=some ad→∀k y,news[k]? = some y→w.cell? (ad.add k)= some y):= by
 have hsl : ∀{v:Value},Γ C.S env w (.sl u ys f) v→∃a cap news,v = .slice a ys.length cap∧RowG C env w u ys news∧(a=none→ys=[])∧(∀ad,a=some ad→∀k y,news[k]? = some y→w.cell? (ad.add k)= some y):= by
  intro v h
  cases h with
  | sl _ _ _ b off cap val hf hc hw hv =>
   refine ⟨_,cap,(List.range (ys.length*C.S.sz u)).map val,rfl,⟨by simp,fun i j hi=>?_⟩,by simp,fun ad ha k y hk=>?_⟩
   ·by_cases hj:j < C.S.sz u
    ·have hm:(i+1)* C.S.sz u≤ys.length*C.S.sz u:=Nat.mul_le_mul_right _ hi
     rw [Nat.add_mul,Nat.one_mul] at hm
     rw [show ((List.range (ys.length*C.S.sz u)).map val).getD (i*C.S.sz u+j) undef=val (i*C.S.sz u+j) by simp [List.getD,List.getElem?_range (show i*C.S.sz u+j < ys.length*C.S.sz u by omega)]]
     exact hv i j hi
    ·have:(C.S.cell u (ys.getD i (C.S.dflt u))).getD j AV.any = .any:=by
      have:=hS.len u (ys.getD i (C.S.dflt u))
      generalize C.S.cell u (ys.getD i (C.S.dflt u))= cs at this ⊢
      rw [List.getD,List.getElem?_eq_none (by omega)];rfl
     rw [this];exact .any _
   ·cases ha
    rw [Addr.add_lit]
    exact range_at (fun k hk=>(hw k hk).1) k y hk
  | slnil=>exact ⟨none,0,[],rfl,⟨by simp,fun i j hi=>by simp at hi⟩,fun _=>rfl,fun ad h=>by cases h⟩
  | slemp _ _ a cap hf=>exact ⟨_,cap,[],rfl,⟨by simp,fun i j hi=>by simp at hi⟩,fun h=>by simp at h,fun ad h k y hk=>by simp at hk⟩
 cases x <;> simp only [deref,reduceCtorEq] at hd
 case sl t xs full=>cases hd;exact hsl hx
 case gs i =>
  cases hx with | gs _ a n c hv =>
  have ho:=hI.objs i
  cases hobj:obj H i with
  | row t xs =>
   rw [hobj] at hd ho
   cases hd
   obtain ⟨u',ws,e1,e2,e3⟩:= ho
   rw [hv] at e1;cases e1
   have hr:RowG C env w u ys ws:=⟨e2.1,fun i j hi=>by
    by_cases hj:j < C.S.sz u
    ·exact e3 i j hi hj
    ·have:(C.S.cell u (ys.getD i (C.S.dflt u))).getD j AV.any = .any:=by
      have:=hS.len u (ys.getD i (C.S.dflt u))
      generalize C.S.cell u (ys.getD i (C.S.dflt u))= cs at this ⊢
      rw [List.getD,List.getElem?_eq_none (by omega)];rfl
     rw [this];exact .any _⟩
   rcases e2.2 with ⟨e4,e5⟩| ⟨g,cap',cur,fz,bo,e4,e5,e6,e7,e8,e9,e10,e11⟩
   ·cases e4
    have:ys=[]:= List.eq_nil_of_length_eq_zero e5
    subst this
    exact ⟨none,0,ws,rfl,hr,fun _=>rfl,fun ad h=>by cases h⟩
   ·cases e4
    refine ⟨_,_,ws,rfl,hr,by simp,fun ad ha k y hk=>?_⟩
    cases ha
    rw [Addr.add_lit]
    simp only [World.cell?,e6]
    subst e10
    rw [List.getElem?_take,List.getElem?_drop] at hk
    split at hk
    ·simpa using hk
    ·cases hk
  | frozen t xs =>
   rw [hobj] at hd ho
   obtain ⟨u',e1,e2⟩:= ho
   rw [hv] at e1;cases e1
   cases hd
   exact hsl e2
  | _=>rw [hobj] at hd;cases hd
theorem convS_sound (hS:SigOk C.S) (hI:Inv C.S B env w H) {src dst:TypeId} {ax r:AV C.S.El} {vx:Value} (h:convS C src dst H ax=some r) (hx:Γ C.S env w ax vx): ∃v,(convert src dst vx).run C.P w = .ok v w∧Γ C.S env w r v:=by
 unfold convS at h
 obtain ⟨hd,h⟩:= cond_some h
 split at h
 ·rename_i t xs g e hde hsrc
  split at h
  ·rename_i he
   simp only [Option.map_eq_some_iff] at h
   obtain ⟨f,hf,rfl⟩:= h
   obtain ⟨hz,hb⟩:= hS.ints t f hf
   obtain ⟨hl,hb⟩:= hb xs
   obtain ⟨a,cap,news,rfl,hrow,hn,hc⟩:= read_sl hS hI hde hx
   have hnews:news=(f xs).map (Value.int .u8):= by
    refine List.ext_getElem (by rw [List.length_map,hl,hrow.1,hz,Nat.mul_one]) fun i h1 h2=>?_
    have hi:i < xs.length:=by rw [List.length_map,hl] at h2;exact h2
    have:=hrow.2 i 0 hi
    rw [hb i hi,hz,Nat.mul_one,Nat.add_zero] at this
    have:=this.unv
    simp only [List.getD,List.getElem?_eq_getElem h1,Option.getD_some] at this
    rw [this,List.getElem_map]
    have h3:i < (f xs).length:=by omega
    simp [List.getD,h3]
   rw [run_convert_bytes_string w src dst e a xs.length cap hsrc he (isStr_run hd)]
   cases a with
   | none =>
    have:xs=[]:= hn rfl
    have hfx:f xs=[]:= List.eq_nil_of_length_eq_zero (by rw [hl,this];rfl)
    refine ⟨_,by simp [Conv.bytesToString];rfl, ?_⟩
    rw [hfx];exact .v _
   | some ad =>
    refine ⟨_,run_bytesToString w ad xs.length cap (f xs) ?_, .v _⟩
    have:=run_loadCells_list (P:=C.P) w ad ((f xs).map (Value.int .u8)) (fun k y hk=>hc ad rfl k y (by rw [hnews];exact hk))
    rw [List.length_map,hl] at this
    exact this
  ·cases h
 ·cases h
end
end Go.Aw
