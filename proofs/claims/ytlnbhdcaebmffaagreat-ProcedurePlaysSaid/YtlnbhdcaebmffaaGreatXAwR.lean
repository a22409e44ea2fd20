/-
  Regions that draw their order (own work).
-/
import Derived.Test.YtlnbhdcaebmffaaGreatXAwC
set_option linter.unusedSimpArgs false
set_option linter.unusedVariables false
namespace Go.Aw
open Go.RowKit
section
variable {C:Cx} {env:Env} {w:World} {B:Nat} {H:List (AObj C.S.El)}
theorem G2.map2 {S:Sig} {env:Env} {w:World} {f g:AV S.El→AV S.El} (hf : ∀x v,Γ S env w (f x) v→Γ S env w (g x) v): ∀(cs:List (AV S.El)) (vs:List Value),G2 S env w (cs.map f) vs→G2 S env w (cs.map g) vs
 | [],vs,h=>by simpa using h
 | c::cs,vs,h=>by
  obtain ⟨u,us,rfl,h1,h2⟩:= h.uncons
  exact (G2.map2 hf cs us h2).cons (hf c u h1)
theorem freezeAll_other : ∀(l:List Nat) (H:List (AObj C.S.El)) (i:Nat),i∉l→obj (freezeAll H l) i=obj H i
 | [],H,i,_=>rfl
 | k::l,H,i,h=>by
  show obj (freezeAll (freeze1 H k) l) i=_
  rw [freezeAll_other l _ i (fun hm=>h (by simp [hm])),freeze1_obj,if_neg (fun e=>h (by simp [e]))]
theorem read_news (hC:CxOk C) (hI:Inv C.S B env w H) {env1:Env} {w':World} {news:List (AObj C.S.El)} {r:AV C.S.El} {v:Value} (h1:Γ C.S env1 w' (sh2 H.length r) v) (h2:Inv C.S B env1 w' (H ++ news)) (h3:Ext B H.length env w env1 w') (hbel:Below w.heap.size w w')
  (hcl:lt2 0 (readN2 news r)= true): PureR C B env w H (readN2 news r) v w':=by
 have hS:=hC.sig
 let ids:=(List.range news.length).map (H.length + ·)
 obtain ⟨env2,v2,I2,E2,l2,f2⟩:= freezeAll_sound hS ids env1 (H ++ news) h2
 have hN1:=h2.fresh
 have hg : ∀x u,Γ C.S env2 w' (sh H.length x) u→Γ C.S env2 w' (readN news x) u:=by
  intro x u hx
  cases x <;> simp only [sh,readN,deref] at hx ⊢<;> try exact hx
  case gm=>exact .any _
  rename_i k
  have hd:deref (freezeAll (H ++ news) ids) (.gs (H.length+k))= deref news (.gs k):= by
   rw [freezeAll_deref]
   simp only [deref]
   have:obj (H ++ news) (H.length+k)= obj news k:=by simp only [obj_nth];rw [List.getElem?_append_right (by omega)];congr 2;omega
   rw [this]
  have:=deref_sound I2 hx (by
   intro i hi t xs
   simp only [owns,List.mem_singleton] at hi
   subst hi
   by_cases hk:k < news.length
   ·exact f2 _ (List.mem_map.2 ⟨k,List.mem_range.2 hk,rfl⟩) t xs
   ·rw [freezeAll_other _ _ _ (by intro hm;obtain ⟨q,hq,he⟩:= List.mem_map.1 hm;rw [List.mem_range] at hq;omega)]
    have:obj (H ++ news) (H.length+k)= .gone:=by rw [obj_nth,List.getElem?_eq_none (by simp;omega)];rfl
    rw [this];simp)
  rw [hd] at this
  exact this
 have hg1 : ∀x u,Γ C.S env2 w' (sh1 H.length x) u→Γ C.S env2 w' (readN1 news x) u:=by
  intro x u hx
  cases x
  case agg cs =>
   simp only [sh1] at hx
   obtain ⟨us,rfl,hus⟩:= hx.unagg
   exact G2.agg (G2.map2 hg cs _ hus)
  all_goals (simp only [sh1,readN1] at hx ⊢;exact hg _ u hx)
 have hΓ2:Γ C.S env2 w' (readN2 news r) v:=by
  have hx:=h1.ext E2 hN1
  cases r
  case tup cs =>
   simp only [sh2] at hx
   obtain ⟨us,rfl,hus⟩:= hx.untup
   have:=G2.map2 hg1 cs _ hus
   exact .tup _ _ (by simpa using this.1) this.2
  all_goals (simp only [sh2,readN2] at hx ⊢;exact hg1 _ v hx)
 have hE4:Ext B H.length env w ⟨env.val,env2.prot⟩ w':=⟨h3.below,fun _ _ _ h=>h,fun b o hp=>E2.prot b o (h3.prot b o hp),h3.keep,fun b o hp=>(E2.newp b o hp).elim (h3.newp b o) .inr⟩
 refine ⟨⟨env.val,env2.prot⟩,rfl,Γ.lt2 (env:=env2) (env':=⟨env.val,env2.prot⟩) hS (n:=0) (fun i v hi=>by omega) (fun _ _ h=>h) hΓ2 hcl,hI.ext hE4 (fun _ _ h=>h) (fun i u b e1 e2 e3=>hbel.block b (live_block hI e1 e2 e3)) (fun i u b o e1 e2 e3 hp=>?_) (fun b o hp=>I2.inheap b o hp),hE4⟩
 exfalso
 have hi:i < H.length:=hI.fresh i u e2
 have ho:obj (freezeAll (H ++ news) ids) i=obj H i:=by
  rw [freezeAll_other _ _ _ (by intro hm;obtain ⟨q,hq,he⟩:= List.mem_map.1 hm;omega)]
  simp only [obj_nth];rw [List.getElem?_append_left hi]
 exact I2.free i u b (by rw [ho];exact e1) (by rw [v2];exact h3.val i u hi e2) e3 o hp
theorem mapClo_closed (q:IntKind×List Int×List FuncId) (x:Value): lt2 0 (mapClo q (.v x): AV C.S.El)= true:=by
 simp [mapClo,lt2,lt1,lt0,cl1,cl0,isScal]
theorem poly_sound (hC:CxOk C) (hI:Inv C.S B env w H) {o:Oper} {a:Act} {c:Call} {rho:Operand→AV C.S.El} (hop:o.op = .call c) (hρ : ∀x∈c.operands.toList,Γ C.S env w (rho x) (a.eval x)) {f:FuncId} {args:List (AV C.S.El)} (ht:targetOf rho c=some (f,args))
  {ps:List Prop} {r:AV C.S.El} (h:polyA C f args=some (ps,r)): Does C.P o a w (PureR C B env w H r):= by
 unfold polyA at h
 split at h
 ·rename_i q i off hQ
  cases h
  obtain ⟨ct,hct,hpl,hres⟩:= hC.poly f q hQ
  obtain ⟨x,fs,vs,hc2,hx,hg⟩:= targetOf_sound (e:=a.eval) (env:=env) (w:=w) ht hρ
  have hrun:=run_call (C:=C) (w:=w) (o:=o) (e:=a.eval) hop hc2 hx hpl
  obtain ⟨u,us,hus,hu,hg2⟩:= hg.uncons
  have hnil:us=[]:= List.eq_nil_of_length_eq_zero hg2.1
  subst hnil
  cases hu with | ref _ _ b hv =>
  have hcall:=hct _ _ _ _ (hres ⟨b,off,none⟩) (by simp) rfl B env w H _ (G2.single (.v _)) hI
  rw [←hus,Array.toArray_toList] at hcall
  unfold Does
  rw [hrun]
  refine hcall.mono fun e w' ⟨v,env2,he,hΓ,hI2,hE2,hbel⟩=> ⟨v,he, ?_⟩
  obtain ⟨env3,h1,h2,h3,h4⟩:= read_news hC hI (news:=[]) (r:=mapClo q (.v (.pointer (some ⟨b,off,none⟩)))) hΓ hI2 hE2 hbel (mapClo_closed q _)
  refine ⟨env3,h1, ?_,h3,h4⟩
  have h2':Γ C.S env3 w' (mapClo q (.v (.pointer (some ⟨b,off,none⟩)))) v:=h2
  unfold mapClo at h2' ⊢
  cases h2' with | fm _ _ _ b' es ck hw hp hk hn hvals =>
  refine .fm _ _ _ b' es ck hw hp hk (by simpa using hn) fun j=>?_
  have hj:=hvals j
  by_cases hjl:j < q.2.2.length
  ·simp only [List.getD,List.getElem?_map,List.getElem?_eq_getElem hjl,Option.map_some,Option.getD_some] at hj ⊢
   obtain ⟨vs',he',hvs'⟩:= hj.unclo
   obtain ⟨u',us',hu1,hu2,hu3⟩:= hvs'.uncons
   have hnil':us'=[]:= List.eq_nil_of_length_eq_zero hu3.1
   subst hnil'
   have:=hu2.unv
   subst this
   rw [he']
   have hg':G2 C.S env3 w' [.ref i off] vs'.toList:=by rw [hu1];exact G2.single (.ref i off b (by rw [h1];exact hv))
   exact .clo _ _ vs' (by simpa using hg'.1) hg'.2
  ·rw [show (q.2.2.map fun g=>(AV.clo (g+mvK) [AV.ref i off]: AV C.S.El)).getD j .any = .any by simp [List.getD,List.getElem?_eq_none (Nat.le_of_not_lt hjl)]]
   exact .any _
 ·cases h
theorem evD_sound (hC:CxOk C) (hI:Inv C.S B env w H) {o:Oper} {a:Act} {rho:Operand→AV C.S.El} (hρ : ∀x∈o.op.operands.toList,Γ C.S env w (rho x) (a.eval x)) {ps:List Prop} {r:AV C.S.El}
  (h:evD C o rho H=some (ps,r)) (hp : ∀p∈ps,p): Does C.P o a w (PureR C B env w H r):= by
 have hS:=hC.sig
 unfold evD at h
 split at h
 ·rename_i rr hev
  cases h
  exact evP_sound hC hI hρ hev hp
 ·cases hop:o.op <;> rw [hop] at h hρ <;> simp only [reduceCtorEq] at h
  case buildSlice t len parts =>
   simp only [Option.map_eq_some_iff] at h
   obtain ⟨sg,hsg,h⟩:= h
   cases h
   obtain ⟨us,hrun,hrow,hlen,hbd⟩:= buildSliceA_sound (e:=a.eval) (env:=env) hS hsg (fun x hx=>hρ x (by simpa [Op.operands] using hx))
   obtain ⟨env',hv0,hI',hE',hc⟩:= pure_alloc hI (oneMore_alloc w (.cells us sg.1))
   have hrun':(Instr.buildSlice t len (parts.map fun x=>(x.1,a.eval x.2))).run C.P w = .ok (.slice (some ⟨w.heap.size,0,none⟩) sg.2.length sg.2.length) (w.alloc (.cells us sg.1)):= by simpa using hrun
   refine does_value (v:=.slice (some ⟨w.heap.size,0,none⟩) sg.2.length sg.2.length) (by simp [execOp,hop,hrun']) ⟨env',hv0, ?_,hI',hE'⟩
   have hrow':=hrow.ext hE' hI.fresh
   refine .sl sg.1 sg.2 true w.heap.size 0 sg.2.length (fun k=>us.toList.getD k undef) (fun _=>rfl) ⟨Nat.le_refl _,by omega⟩ (fun k hk=>?_) (fun i j hi=>hrow'.2 i j hi)
   rw [Nat.zero_add]
   have hk':k < us.size:=by have:=hrow.1;simp at this;omega
   exact hc k _ (by simp [List.getD,hk'])
  case convert s d x =>
   simp only [Option.map_eq_some_iff] at h
   obtain ⟨sg,hsg,h⟩:= h
   cases h
   obtain ⟨v,w',q1,q2⟩:= convB_sl hS hI hsg (hp _ (List.mem_singleton.2 rfl)) (hρ x (by simp [Op.operands]))
   exact does_value (v:=v) (by simp [execOp,hop,q1]) q2
  case call c =>
   split at h
   ·rename_i x0 hc
    split at h
    ·rename_i f args ht
     split at h
     ·rename_i ct hT
      split at h
      ·rename_i ps' r' news hct
       obtain ⟨hb,h⟩:= cond_some h
       cases h
       simp only [Bool.and_eq_true] at hb
       obtain ⟨⟨hb1,hb2⟩,hb3⟩:= hb
       rw [Bool.or_eq_true] at hb2
       rcases hb2 with hb2 | hk
       ·have hnil:args.flatMap owns1=[]:= by simpa using hb2
        refine (call_ct hC hI hop (fun y hy=>hρ y (by simpa [Op.operands] using hy)) ht hT hct hp hb1).mono fun v w' ⟨env1,h1,h2,h3,hbel⟩=> ?_
        rw [hnil] at h2
        simp only [freezeAll,List.foldl_nil] at h2
        exact read_news hC hI h1 h2 h3 hbel hb3
       ·simp only [keepOwn,Bool.and_eq_true] at hk
        exact (call_own hC hI hop (fun y hy=>hρ y (by simpa [Op.operands] using hy)) ht hT hct hp hb1 hk.2.1 hk.2.2).mono fun v w' ⟨env1,h1,h2,h3,hbel⟩=> read_news hC hI h1 h2 h3 hbel hb3
      ·cases h
     ·exact poly_sound hC hI hop (fun y hy=>hρ y (by simpa [Op.operands] using hy)) ht h
    ·cases h
   ·rename_i hc
    exact apA_sound hC hI hop hc (fun y hy=>hρ y (by simpa [Op.operands] using hy)) h hp
   ·cases h
theorem obj_app (H N:List (AObj C.S.El)) (i:Nat): obj (H ++ N) i=obj H i∨(obj H i = .gone∧H.length≤i):= by
 simp only [obj_nth,List.getElem?_append]
 by_cases h:i < H.length
 ·rw [if_pos h];exact .inl rfl
 ·rw [if_neg h]
  exact .inr ⟨by rw [List.getElem?_eq_none (by omega)];rfl,by omega⟩
theorem deref_app {H:List (AObj C.S.El)} (N:List (AObj C.S.El)) {x:AV C.S.El} (hx:noGs0 H.length x=true): deref (H ++ N) x=deref H x:=by
 cases x <;> simp only [deref]
 rename_i i
 rcases obj_app H N i with h | ⟨_,h2⟩
 ·rw [h]
 ·simp only [noGs0,Nat.blt,Nat.ble_eq] at hx;omega
theorem deref_app_sl {H:List (AObj C.S.El)} (N:List (AObj C.S.El)) {x:AV C.S.El} {e:TypeId} {ys:List (C.S.El e)} {f:Bool} (hx:deref H x = .sl e ys f): deref (H ++ N) x = .sl e ys f:=by
 cases x <;> simp only [deref] at hx ⊢<;> try exact hx
 rename_i i
 rcases obj_app H N i with h | ⟨h1,h2⟩
 ·rw [h];exact hx
 ·rw [obj_nth,List.getElem?_eq_none h2] at hx;cases hx
theorem deref1_app {H:List (AObj C.S.El)} (N:List (AObj C.S.El)) {x:AV C.S.El} (hx:noGs1 H.length x=true): deref1 (H ++ N) x=deref1 H x:=by
 cases x with
 | agg cs =>
  simp only [deref1,noGs1] at hx ⊢
  congr 1
  exact List.map_congr_left fun y hy=>deref_app N ((List.all_eq_true.1 hx) y hy)
 | gs i=>exact deref_app N (x:=.gs i) hx
 | _=>rfl
theorem lenA_app {H:List (AObj C.S.El)} (N:List (AObj C.S.El)) {t:TypeId} {x:AV C.S.El} (hx:noGs H.length x=true): lenA C.P t (H ++ N) x=lenA C.P t H x:=by
 cases x with
 | gs i =>
  simp only [lenA]
  rcases obj_app H N i with h | ⟨_,h2⟩
  ·rw [h]
  ·simp only [noGs,noGs1,noGs0,Nat.blt,Nat.ble_eq] at hx;omega
 | v x=>cases x <;> rfl
 | _=>rfl
theorem loadA_app {H:List (AObj C.S.El)} (N:List (AObj C.S.El)) {t:TypeId} {x:AV C.S.El} {r} (h:loadA C t H x=some r): loadA C t (H ++ N) x=some r:=by
 cases x <;> simp only [loadA,reduceCtorEq] at h ⊢
 case ref i o =>
  rcases obj_app H N i with k | ⟨h1,_⟩
  ·rw [k];exact h
  ·rw [h1] at h;cases h
 case rg v i j o =>
  rcases obj_app H N i with k | ⟨h1,_⟩
  ·rw [k];exact h
  ·rw [h1] at h;cases h
 case rp=>exact h
theorem indexAddrA_app {H:List (AObj C.S.El)} (N:List (AObj C.S.El)) {t:TypeId} {x y:AV C.S.El} {r} (h:indexAddrA C t H x y=some r): indexAddrA C t (H ++ N) x y=some r:=by
 cases y with
 | v v =>
  cases v with
  | int k n =>
   cases x with
   | gs i =>
    simp only [indexAddrA] at h ⊢
    rcases obj_app H N i with k | ⟨h1,_⟩
    ·rw [k];exact h
    ·rw [h1] at h;cases h
   | _=>exact h
  | _=>cases x <;> exact h
 | _=>cases x <;> exact h
theorem sh_eq {n m:Nat} {x:AV C.S.El} (h:lt0 0 (sh n x)= true): sh m x=sh n x:=by
 cases x with
 | gs i=>exact absurd h (by simp [sh,lt0,Nat.blt])
 | gm i=>exact absurd h (by simp [sh,lt0,Nat.blt])
 | _=>rfl
theorem shL_eq {n m:Nat}: ∀{l:List (AV C.S.El)},(l.map (sh n)).all (lt0 0)= true→l.map (sh m)= l.map (sh n)
 | [],_=>rfl
 | x::l,h=>by
  simp only [List.map_cons,List.all_cons,Bool.and_eq_true] at h ⊢
  rw [sh_eq (m:=m) h.1,shL_eq h.2]
theorem sh1_eq {n m:Nat} {x:AV C.S.El} (h:lt1 0 (sh1 n x)= true): sh1 m x=sh1 n x:=by
 cases x with
 | agg cs=>simp only [sh1,lt1] at h ⊢;rw [shL_eq h]
 | gs i=>exact sh_eq (x:=.gs i) (show lt0 0 (sh n (.gs i))= true from h)
 | gm i=>exact sh_eq (x:=.gm i) (show lt0 0 (sh n (.gm i))= true from h)
 | _=>rfl
theorem shL1_eq {n m:Nat}: ∀{l:List (AV C.S.El)},(l.map (sh1 n)).all (lt1 0)= true→l.map (sh1 m)= l.map (sh1 n)
 | [],_=>rfl
 | x::l,h=>by
  simp only [List.map_cons,List.all_cons,Bool.and_eq_true] at h ⊢
  rw [sh1_eq (m:=m) h.1,shL1_eq h.2]
theorem sh2_eq {n m:Nat} {x:AV C.S.El} (h:lt2 0 (sh2 n x)= true): sh2 m x=sh2 n x:=by
 cases x with
 | agg cs=>exact sh1_eq (x:=.agg cs) (show lt1 0 (sh1 n (.agg cs))= true from h)
 | tup cs=>simp only [sh2,lt2] at h ⊢;rw [shL1_eq h]
 | gs i=>exact sh1_eq (x:=.gs i) (show lt1 0 (sh1 n (.gs i))= true from h)
 | gm i=>exact sh1_eq (x:=.gm i) (show lt1 0 (sh1 n (.gm i))= true from h)
 | _=>rfl
theorem sh2_bif (n m:Nat) (a b:Bool) (ps:List Prop) (r:AV C.S.El): (bif (a && (b && lt2 0 (sh2 m r))) then some (ps,sh2 m r) else none)= (bif (a && (b && lt2 0 (sh2 n r))) then some (ps,sh2 n r) else none):= by
 cases hm:lt2 0 (sh2 m r) <;> cases hn:lt2 0 (sh2 n r)
 ·simp
 ·rw [sh2_eq (m:=m) hn,hn] at hm;cases hm
 ·rw [sh2_eq (m:=n) hm,hm] at hn;cases hn
 ·rw [sh2_eq (m:=m) hn]
theorem argsA_app {H:List (AObj C.S.El)} (N:List (AObj C.S.El)) (c:Call) {args:List (AV C.S.El)} (ha : ∀y∈args,noGs1 H.length y=true): argsA C.P c (H ++ N) args=argsA C.P c H args:=by
 unfold argsA
 rw [List.map_congr_left fun y hy=>deref1_app N (ha y hy)]
theorem noNew_mem {n:Nat} {o:Oper} {rho:Operand→AV C.S.El} (h:noNew C n o rho=true) {x:Operand} (hx:x∈o.op.operands.toList): noGs n (rho x)= true:=(List.all_eq_true.1 h) x hx
theorem noGs_1 {n:Nat} {x:AV C.S.El} (hx:noGs n x=true): noGs1 n x=true:=by
 cases x <;> first | exact hx | rfl
theorem target_noGs {n:Nat} {o:Oper} {c:Call} {rho:Operand→AV C.S.El} (hop:o.op = .call c) (h:noNew C n o rho=true) {f:FuncId} {args:List (AV C.S.El)} (ht:targetOf rho c=some (f,args)): ∀y∈args,noGs1 n y=true:=by
 have hm : ∀x,x∈c.operands.toList→noGs n (rho x)= true:=fun x hx=>noNew_mem h (by rw [hop];exact hx)
 unfold targetOf at ht
 split at ht
 ·rename_i x hc
  split at ht
  ·rename_i f' cap hx
   cases ht
   intro y hy
   have hcap : ∀y∈cap,noGs1 n y=true:=by
    have h2:=hm x (by simp [Call.operands,hc])
    rw [hx] at h2
    exact List.all_eq_true.1 (show cap.all (noGs1 n)= true from h2)
   rcases List.mem_append.1 hy with h1 | h1
   ·exact hcap y (List.mem_of_mem_take h1)
   rcases List.mem_append.1 h1 with h1 | h1
   ·obtain ⟨z,hz,rfl⟩:= List.mem_map.1 h1
    exact noGs_1 (hm z (by simp only [Call.operands,hc,Array.toList_append,List.mem_append];exact .inr hz))
   ·exact hcap y (List.mem_of_mem_drop h1)
  ·cases ht
 ·cases ht
theorem evP_app {H:List (AObj C.S.El)} (N:List (AObj C.S.El)) {o:Oper} {rho:Operand→AV C.S.El} (hn:noNew C H.length o rho=true) {r} (h:evP C o rho H=some r): evP C o rho (H ++ N)= some r:=by
 unfold evP at h ⊢
 cases hop:o.op <;> rw [hop] at h <;> simp only [reduceCtorEq] at h ⊢<;> try exact h
 case load t x=>exact loadA_app N h
 case convert s d x =>
  have e:convS C s d (H ++ N) (rho x)= convS C s d H (rho x):= by
   unfold convS
   have:=noGs_1 (noNew_mem hn (x:=x) (by rw [hop];simp [Op.operands]))
   have h2:deref (H ++ N) (rho x)= deref H (rho x):= by
    cases hx:rho x with
    | gs i=>rw [hx] at this;exact deref_app N this
    | _=>rfl
   rw [h2]
  rw [e];exact h
 case indexAddr t x i=>exact indexAddrA_app N h
 case call c =>
  split at h
  ·split at h
   ·rename_i x t hx ht
    rw [lenA_app N (noNew_mem hn (x:=x) (by rw [hop];simp [Op.operands,Call.operands,hx]))];exact h
   ·exact h
  ·exact h
  ·exact h
  ·split at h
   ·split at h
    ·split at h
     ·rename_i f args ht _ ct hT _ ps r' hct
      rw [argsA_app N c (target_noGs hop hn ht),hct]
      obtain ⟨hc,h⟩:= cond_some h
      simp only [Bool.and_eq_true] at hc
      have e:=sh2_eq (m:=(H ++ N).length) hc.2.2
      simp only [e]
      simp only [hc.1,hc.2.1,hc.2.2,Bool.and_self,cond_true]
      exact h
     ·cases h
    ·cases h
   ·cases h
  ·cases h
theorem evD_app {H:List (AObj C.S.El)} (N:List (AObj C.S.El)) {o:Oper} {rho:Operand→AV C.S.El} (hn:noNew C H.length o rho=true) {r} (h:evD C o rho H=some r): evD C o rho (H ++ N)= some r:=by
 unfold evD at h ⊢
 cases hp:evP C o rho H with
 | some q =>
  rw [hp] at h
  rw [evP_app N hn hp];exact h
 | none =>
  rw [hp] at h
  simp only at h
  cases hop:o.op <;> rw [hop] at h <;> simp only [reduceCtorEq] at h
  case buildSlice t len parts =>
   have:evP C o rho (H ++ N)= none:=by unfold evP;rw [hop]
   rw [this];exact h
  case convert s d x =>
   have hx : ∃str,rho x = .v (.string str):= by
    cases hr:rho x with
    | v y =>
     cases y with
     | string str=>exact ⟨str,rfl⟩
     | _=>rw [hr] at h;simp [convB] at h
    | _=>rw [hr] at h;simp [convB] at h
   obtain ⟨str,hx⟩:= hx
   have:evP C o rho (H ++ N)= none:=by
    rw [←hp];unfold evP;rw [hop];simp only [hx];rfl
   rw [this];exact h
  case call c =>
   split at h
   ·rename_i x0 hc
    split at h
    ·rename_i f args ht
     have e:=argsA_app N c (target_noGs hop hn ht)
     have:evP C o rho (H ++ N)= none:=by
      rw [←hp]
      unfold evP
      simp only [hop,hc,ht,e,sh2_bif H.length (H ++ N).length]
     rw [this]
     simp only [hc,ht,e]
     exact h
    ·cases h
   ·rename_i hc
    have:evP C o rho (H ++ N)= none:=by unfold evP;simp only [hop,hc]
    rw [this]
    simp only [hc]
    unfold apA at h ⊢
    split at h
    ·rename_i s0 x t t' hargs htys
     have hx:noGs H.length x=true:=by
      have:x∈c.args.toList.map rho:=by rw [hargs];simp
      obtain ⟨z,hz,rfl⟩:= List.mem_map.1 this
      exact noNew_mem hn (by rw [hop];simp only [Op.operands,Call.operands,Array.toList_append,List.mem_append];exact .inr hz)
     have hde:deref (H ++ N) x=deref H x:=by
      cases x with
      | gs i=>exact deref_app N (x:=.gs i) hx
      | _=>rfl
     rw [hde]
     exact h
    ·cases h
   ·cases h
theorem mask_spec {acc:List Nat} {j:Nat}: ∀(es:List Edge),(maskOf acc es).testBit j=true→∃e∈es,Region.binds .any e=true∧(j=e.on∨((nth acc e.on).getD 0).testBit j=true)
 | [],h=>by simp [maskOf] at h
 | e::es,h=>by
  simp only [maskOf] at h
  cases hb:Region.binds .any e
  ·rw [hb,cond_false] at h
   obtain ⟨e',h1,h2⟩:= mask_spec es h
   exact ⟨e',by simp [h1],h2⟩
  ·rw [hb,cond_true,Nat.testBit_or,Nat.testBit_or,Bool.or_eq_true,Bool.or_eq_true] at h
   rcases h with (h | h)| h
   ·rw [Nat.testBit_two_pow] at h
    exact ⟨e,by simp,hb, .inl (by simpa using (of_decide_eq_true h).symm)⟩
   ·exact ⟨e,by simp,hb, .inr h⟩
   ·obtain ⟨e',h1,h2⟩:= mask_spec es h
    exact ⟨e',by simp [h1],h2⟩
theorem bits_old : ∀(os:List Oper) (acc:List Nat) (i:Nat),i < acc.length→(bitsFrom acc os)[i]? = acc[i]?
 | [],acc,i,h=>rfl
 | o::os,acc,i,h=>by
  rw [bitsFrom,bits_old os _ i (by simp;omega),List.getElem?_append_left h]
theorem bits_new : ∀(os:List Oper) (acc:List Nat) (k:Nat) (o:Oper),os[k]? = some o→∃acc',acc'.length=acc.length+k∧(∀i,i < acc'.length→(bitsFrom acc os)[i]? = acc'[i]?)∧(bitsFrom acc os)[acc.length+k]? = some (maskOf acc' o.after.toList)
 | [],acc,k,o,h=>by simp at h
 | o'::os,acc,0,o,h=>by
  simp only [List.getElem?_cons_zero,Option.some.injEq] at h
  subst h
  refine ⟨acc,rfl,fun i hi=>bits_old (o'::os) acc i hi, ?_⟩
  rw [bitsFrom,bits_old os _ _ (by simp)]
  simp
 | o'::os,acc,k+1,o,h=>by
  obtain ⟨acc',h1,h2,h3⟩:= bits_new os (acc ++ [maskOf acc o'.after.toList]) k o (by simpa using h)
  refine ⟨acc',by simp at h1;omega,fun i hi=>by rw [bitsFrom];exact h2 i hi, ?_⟩
  rw [bitsFrom]
  simp only [List.length_append,List.length_cons,List.length_nil] at h3
  rw [show acc.length+(k+1)= acc.length+(0+1)+ k by omega]
  exact h3
theorem ahead_closed {all:List Oper} {L:Nat→Bool} (hed : ∀i o,all[i]? = some o→∀e∈o.after.toList,Region.binds .any e=true→e.on < i)
  (hcl : ∀i o,all[i]? = some o→L i=true→∀e∈o.after.toList,Region.binds .any e=true→L e.on=true): ∀(i:Nat) (o:Oper),all[i]? = some o→(∀e∈o.after.toList,Region.binds .any e=true→L e.on=true)→∀j,ahead (bitsBefore all) j i=true→L j=true:=by
 intro i
 induction i using Nat.strongRecOn with
 | _ i ih =>
  intro o ho hL j hj
  obtain ⟨acc',h1,h2,h3⟩:= bits_new all [] i o ho
  simp only [List.length_nil,Nat.zero_add] at h1 h3
  unfold ahead bitsBefore at hj
  rw [nth_eq,h3] at hj
  simp only [Option.getD_some] at hj
  obtain ⟨e,he,hb,hor⟩:= mask_spec _ hj
  have hon:=hed i o ho e he hb
  have hLe:=hL e he hb
  rcases hor with rfl | hor
  ·exact hLe
  ·have hlt:e.on < all.length:=by have:=(List.getElem?_eq_some_iff.1 ho).1;omega
   refine ih e.on hon all[e.on] (List.getElem?_eq_getElem hlt) (hcl e.on _ (List.getElem?_eq_getElem hlt) hLe) j ?_
   unfold ahead bitsBefore
   rw [nth_eq] at hor ⊢
   rw [h2 e.on (by omega)]
   exact hor
def slotsOf (slots:List (Nat×AV C.S.El)) (p:Nat→Bool): List (Option Nat×AV C.S.El)→Nat→List (Nat×AV C.S.El)
 | [],_=>slots
 | (d,x):: l,i=>slotsOf (bif p i then (match d with | some d=>(d,x):: slots | none=>slots) else slots) p l (i+1)
theorem slotsOf_congr {t:Nat}: ∀(l:List (Option Nat×AV C.S.El)) (i:Nat) (s s':List (Nat×AV C.S.El)) (p q:Nat→Bool),lk s t=lk s' t→(∀k x,l[k]? = some (some t,x)→p (i+k)= q (i+k))→lk (slotsOf s p l i) t=lk (slotsOf s' q l i) t
 | [],i,s,s',p,q,h,_=>h
 | (d,x):: l,i,s,s',p,q,h,hw=>by
  simp only [slotsOf]
  refine slotsOf_congr l (i+1) _ _ p q ?_ (fun k y hk=>by have:=hw (k+1) y (by simpa using hk);rw [show i+1+k=i+(k+1) by omega];exact this)
  cases d with
  | none=>cases p i <;> cases q i <;> simpa using h
  | some d =>
   by_cases hd:d=t
   ·subst hd
    have:=hw 0 x rfl
    simp only [Nat.add_zero] at this
    rw [this]
    cases q i
    ·simpa using h
    ·simp [lk]
   ·have e : ∀(b:Bool) (s:List (Nat×AV C.S.El)),lk (bif b then (d,x):: s else s) t=lk s t:=by
     intro b s
     cases b
     ·rfl
     ·rw [cond_true,lk]
      have:Nat.beq d t=false:=by
       cases hb:Nat.beq d t
       ·rfl
       ·exact absurd (Nat.eq_of_beq_eq_true hb) hd
      rw [this,cond_false]
    rw [e,e];exact h
theorem slotsOf_last {t:Nat} {x:AV C.S.El}: ∀(l:List (Option Nat×AV C.S.El)) (i:Nat) (s:List (Nat×AV C.S.El)) (p:Nat→Bool) (k:Nat),l[k]? = some (some t,x)→p (i+k)= true→(∀k' y,k < k'→l[k']? = some (some t,y)→p (i+k')= false)→lk (slotsOf s p l i) t=x
 | [],i,s,p,k,h,_,_=>by simp at h
 | (d,y):: l,i,s,p,0,h,hp,hl=>by
  simp only [List.getElem?_cons_zero,Option.some.injEq,Prod.mk.injEq] at h
  obtain ⟨rfl,rfl⟩:= h
  simp only [Nat.add_zero] at hp
  simp only [slotsOf,hp,cond_true]
  rw [slotsOf_congr l (i+1) _ ((t,y):: s) p (fun _=>false) rfl (fun k z hk=>by
   have:=hl (k+1) z (by omega) (by simpa using hk)
   rw [show i+1+k=i+(k+1) by omega];exact this)]
  have : ∀(l:List (Option Nat×AV C.S.El)) (i:Nat) (s:List (Nat×AV C.S.El)),slotsOf s (fun _=>false) l i=s:=by
   intro l
   induction l with
   | nil=>exact fun _ _=>rfl
   | cons a l ih=>intro i s;obtain ⟨d,y⟩:= a;simp only [slotsOf,cond_false];exact ih _ _
  rw [this]
  simp [lk]
 | (d,y):: l,i,s,p,k+1,h,hp,hl=>by
  simp only [slotsOf]
  exact slotsOf_last l (i+1) _ p k (by simpa using h) (by rw [show i+1+k=i+(k+1) by omega];exact hp) (fun k' z hk hz=>by
   have:=hl (k'+1) z (by omega) (by simpa using hz)
   rw [show i+1+k'=i+(k'+1) by omega];exact this)
theorem slotsOf_append (s:List (Nat×AV C.S.El)) (p:Nat→Bool): ∀(l l':List (Option Nat×AV C.S.El)) (i:Nat),slotsOf s p (l ++ l') i=slotsOf (slotsOf s p l i) p l' (i+l.length)
 | [],l',i=>rfl
 | (d,x):: l,l',i=>by
  simp only [List.cons_append,slotsOf,List.length_cons]
  rw [slotsOf_append _ p l l' (i+1)]
  congr 1
  omega
theorem slotsOf_false : ∀(l:List (Option Nat×AV C.S.El)) (i:Nat) (s':List (Nat×AV C.S.El)),slotsOf s' (fun _=>false) l i=s'
 | [],_,_=>rfl
 | (d,y):: l,i,s=>by simp only [slotsOf,cond_false];exact slotsOf_false l _ _
theorem slotsOf_take (s:List (Nat×AV C.S.El)) (vs:List (Option Nat×AV C.S.El)) (k t:Nat): lk (slotsOf s (fun _=>true) (vs.take k) 0) t=lk (slotsOf s (fun i=>decide (i < k)) vs 0) t:=by
 have h:vs=vs.take k ++ vs.drop k:=(List.take_append_drop k vs).symm
 have hs:lk (slotsOf s (fun i=>decide (i < k)) (vs.take k ++ vs.drop k) 0) t=lk (slotsOf s (fun _=>true) (vs.take k) 0) t:=by
  rw [slotsOf_append]
  have e1:lk (slotsOf s (fun i=>decide (i < k)) (vs.take k) 0) t=lk (slotsOf s (fun _=>true) (vs.take k) 0) t:=slotsOf_congr _ 0 s s _ _ rfl (fun j x hj=>by
   have:=(List.getElem?_eq_some_iff.1 hj).1
   simp only [List.length_take] at this
   simp;omega)
  rw [←e1]
  have e2 : ∀s',lk (slotsOf s' (fun i=>decide (i < k)) (vs.drop k) (0+(vs.take k).length)) t=lk (slotsOf s' (fun _=>false) (vs.drop k) (0+(vs.take k).length)) t:=by
   intro s'
   refine slotsOf_congr (vs.drop k) _ s' s' _ _ rfl (fun j x hj=>?_)
   have:=(List.getElem?_eq_some_iff.1 hj).1
   simp only [List.length_drop,List.length_take] at this ⊢
   simp;omega
  rw [e2,slotsOf_false]
 rw [←hs,←h]
inductive LtK (El:TypeId→Type) where
 | st (j off:Nat) (new:List (AV El))
 | ap (a k:Nat) (o:AObj El)
def putQ {El:TypeId→Type} (H:List (AObj El)): LtK El→List (AObj El)
 | .st j off new=>putL H j off new
 | .ap a k o=>setN (setN H a .gone) k o
def touch {El:TypeId→Type}: LtK El→List Nat
 | .st j _ _=>[j]
 | .ap a k _=>[a,k]
inductive Nw (El:TypeId→Type) where
 | no
 | al (o:AObj El)
 | pt (k:Nat) (cs:List (AV El))
 | lt (q:LtK El)
def StepOk (C:Cx) (Tg:List Nat) (all:List Oper) (Lt:List Nat) (i:Nat) (st:St C.S.El) (N:List (AObj C.S.El)) (D:List Nat) (o:Oper) (x:AV C.S.El): Nw C.S.El→Prop
 | .no=>(o.guard=none∧noNew C (seen Tg all Lt i o (rhoOf C st o) st.objs).length o (rhoOf C st o)= true∧∃ps,evD C o (rhoOf C st o) (seen Tg all Lt i o (rhoOf C st o) st.objs)= some (ps,x)∧∀p∈owedOf C st o none ++ ps,p)∨
  (∃j want g ps y,o.guard=some (j,want)∧guardB st.slots all j want=some g∧noNew C (seen Tg all Lt i o (rhoOf C st o) st.objs).length o (rhoOf C st o)= true∧evD C o (rhoOf C st o) (seen Tg all Lt i o (rhoOf C st o) st.objs)= some (ps,y)∧x = .gd g (bare y)∧(∀p∈if0 g (owedOf C st o (some g)++ own1 y ++ ps),p))∨
  ∃t m k ok n ks vs,o.guard=none∧o.op = .lookup t m k ok∧lookupA C t (seen Tg all Lt i o (rhoOf C st o) st.objs) (rhoOf C st o m) (rhoOf C st o k)= some (n,ks,vs)∧lkRes C t ok (lkFind n ks vs)= some x∧∀p∈owedOf C st o none,p
 | .al ob=>o.guard=none∧allocO C all o (rhoOf C st o) (st.objs.length+N.length)= some (ob,x)∧∀p∈owedOf C st o none ++ allocP C o (rhoOf C st o),p
 | .pt k cs=>o.guard=none∧putA C o (rhoOf C st o) st.objs.length N D=some (k,cs)∧x = .any∧∀p∈owedOf C st o none,p
 | .lt q=>o.guard=none∧((∃j off new,q = .st j off new∧lateA C Tg all Lt i o (rhoOf C st o) st.objs=some (j,off,new)∧x = .any∧∀p∈owedOf C st o none,p)∨
  ∃a k ob ps,q = .ap a k ob∧apK C Tg all Lt i o (rhoOf C st o) st.objs=some (ps,a,k,ob,x)∧∀p∈owedOf C st o none ++ ps,p)
def cnt {El:TypeId→Type}: List (Nw El)→Nat
 | []=> 0
 | .al _::l=>cnt l+1
 | _::l=>cnt l
def stepN {El:TypeId→Type} (N:List (AObj El)): Nw El→List (AObj El)
 | .no=>N
 | .lt .. => N
 | .al o=>N ++ [o]
 | .pt k cs=>setN N k (.cells cs)
def stepD {El:TypeId→Type} (D:List Nat): Nw El→List Nat
 | .pt k _=>k::D
 | _=>D
def newAt {El:TypeId→Type} (p:Nat→Bool): List (Nw El)→Nat→List (AObj El)
 | [],_=>[]
 | .al o::l,i=>(bif p i then o else .gone):: newAt p l (i+1)
 | _::l,i=>newAt p l (i+1)
def putsAt {El:TypeId→Type} (p:Nat→Bool): List (Nw El)→Nat→List (AObj El)→List (AObj El)
 | [],_,N=>N
 | .pt k cs::l,i,N=>putsAt p l (i+1) (bif p i then setN N k (.cells cs) else N)
 | _::l,i,N=>putsAt p l (i+1) N
def objsAt {El:TypeId→Type} (p:Nat→Bool) (l:List (Nw El)): List (AObj El):= putsAt p l 0 (newAt p l 0)
theorem newAt_congr {p q:Nat→Bool}: ∀(l:List (Nw C.S.El)) (i:Nat),(∀k,k < l.length→p (i+k)= q (i+k))→newAt p l i=newAt q l i
 | [],_,_=>rfl
 | .no::l,i,h=>newAt_congr l (i+1) fun k hk=>by have:=h (k+1) (by simp;omega);rw [show i+1+k=i+(k+1) by omega];exact this
 | .lt _::l,i,h=>newAt_congr l (i+1) fun k hk=>by have:=h (k+1) (by simp;omega);rw [show i+1+k=i+(k+1) by omega];exact this
 | .pt _ _::l,i,h=>newAt_congr l (i+1) fun k hk=>by have:=h (k+1) (by simp;omega);rw [show i+1+k=i+(k+1) by omega];exact this
 | .al cs::l,i,h=>by
  have h0:=h 0 (by simp)
  rw [Nat.add_zero] at h0
  simp only [newAt,h0]
  rw [newAt_congr (p:=p) (q:=q) l (i+1) fun k hk=>by have:=h (k+1) (by simp;omega);rw [show i+1+k=i+(k+1) by omega];exact this]
theorem putsAt_congr {p q:Nat→Bool}: ∀(l:List (Nw C.S.El)) (i:Nat) (N:List (AObj C.S.El)),(∀k,k < l.length→p (i+k)= q (i+k))→putsAt p l i N=putsAt q l i N
 | [],_,_,_=>rfl
 | .no::l,i,N,h=>putsAt_congr l (i+1) N fun k hk=>by have:=h (k+1) (by simp;omega);rw [show i+1+k=i+(k+1) by omega];exact this
 | .lt _::l,i,N,h=>putsAt_congr l (i+1) N fun k hk=>by have:=h (k+1) (by simp;omega);rw [show i+1+k=i+(k+1) by omega];exact this
 | .al _::l,i,N,h=>putsAt_congr l (i+1) N fun k hk=>by have:=h (k+1) (by simp;omega);rw [show i+1+k=i+(k+1) by omega];exact this
 | .pt k0 cs::l,i,N,h=>by
  have h0:=h 0 (by simp)
  rw [Nat.add_zero] at h0
  simp only [putsAt,h0]
  exact putsAt_congr l (i+1) _ fun k hk=>by have:=h (k+1) (by simp;omega);rw [show i+1+k=i+(k+1) by omega];exact this
theorem objsAt_congr {p q:Nat→Bool} (l:List (Nw C.S.El)) (h : ∀k,k < l.length→p k=q k): objsAt p l=objsAt q l:=by
 unfold objsAt
 rw [newAt_congr (p:=p) (q:=q) l 0 (fun k hk=>by rw [Nat.zero_add];exact h k hk),putsAt_congr (p:=p) (q:=q) l 0 _ (fun k hk=>by rw [Nat.zero_add];exact h k hk)]
theorem newAt_set {p q:Nat→Bool}: ∀(l:List (Nw C.S.El)) (i k:Nat) (cs:AObj C.S.El),l[k]? = some (.al cs)→(∀m,q m=if m=i+k then true else p m)→newAt q l i=(newAt p l i).set (cnt (l.take k)) cs
 | [],i,k,cs,h,_=>by simp at h
 | x::l,i,0,cs,h,hq=>by
  simp only [List.getElem?_cons_zero,Option.some.injEq] at h
  subst h
  simp only [newAt,List.take_zero,cnt,List.set_cons_zero]
  have h0:=hq i
  rw [Nat.add_zero,if_pos rfl] at h0
  rw [h0,cond_true,newAt_congr (p:=q) (q:=p) l (i+1) fun k hk=>by rw [hq,if_neg (by omega)]]
 | .no::l,i,k+1,cs,h,hq=>by
  simp only [newAt,List.take_succ_cons,cnt]
  exact newAt_set l (i+1) k cs (by simpa using h) fun m=>by rw [hq];congr 1;rw [show i+1+k=i+(k+1) by omega]
 | .lt _::l,i,k+1,cs,h,hq=>by
  simp only [newAt,List.take_succ_cons,cnt]
  exact newAt_set l (i+1) k cs (by simpa using h) fun m=>by rw [hq];congr 1;rw [show i+1+k=i+(k+1) by omega]
 | .pt _ _::l,i,k+1,cs,h,hq=>by
  simp only [newAt,List.take_succ_cons,cnt]
  exact newAt_set l (i+1) k cs (by simpa using h) fun m=>by rw [hq];congr 1;rw [show i+1+k=i+(k+1) by omega]
 | .al c::l,i,k+1,cs,h,hq=>by
  simp only [newAt,List.take_succ_cons,cnt,List.set_cons_succ]
  rw [newAt_set (p:=p) l (i+1) k cs (by simpa using h) fun m=>by rw [hq];congr 1;rw [show i+1+k=i+(k+1) by omega]]
  rw [hq i,if_neg (by omega)]
theorem newAt_get {p:Nat→Bool}: ∀(l:List (Nw C.S.El)) (i k:Nat) (cs:AObj C.S.El),l[k]? = some (.al cs)→(newAt p l i)[cnt (l.take k)]? = some (bif p (i+k) then cs else .gone)
 | [],i,k,cs,h=>by simp at h
 | x::l,i,0,cs,h=>by
  simp only [List.getElem?_cons_zero,Option.some.injEq] at h
  subst h
  simp [newAt,cnt]
 | .no::l,i,k+1,cs,h=>by
  simp only [newAt,List.take_succ_cons,cnt]
  rw [newAt_get l (i+1) k cs (by simpa using h),show i+1+k=i+(k+1) by omega]
 | .lt _::l,i,k+1,cs,h=>by
  simp only [newAt,List.take_succ_cons,cnt]
  rw [newAt_get l (i+1) k cs (by simpa using h),show i+1+k=i+(k+1) by omega]
 | .pt _ _::l,i,k+1,cs,h=>by
  simp only [newAt,List.take_succ_cons,cnt]
  rw [newAt_get l (i+1) k cs (by simpa using h),show i+1+k=i+(k+1) by omega]
 | .al c::l,i,k+1,cs,h=>by
  simp only [newAt,List.take_succ_cons,cnt,List.getElem?_cons_succ]
  rw [newAt_get l (i+1) k cs (by simpa using h),show i+1+k=i+(k+1) by omega]
def isAl {El:TypeId→Type}: Nw El→Bool
 | .al _=>true
 | _=>false
theorem newAt_same {p q:Nat→Bool}: ∀(l:List (Nw C.S.El)) (i k:Nat) (x:Nw C.S.El),l[k]? = some x→isAl x=false→(∀m,q m=if m=i+k then true else p m)→newAt q l i=newAt p l i
 | [],i,k,x,h,_,_=>by simp at h
 | y::l,i,0,x,h,hx,hq=>by
  simp only [List.getElem?_cons_zero,Option.some.injEq] at h
  subst h
  cases y with
  | al cs=>cases hx
  | no=>simp only [newAt];exact newAt_congr l (i+1) fun k hk=>by rw [hq,if_neg (by omega)]
  | lt _=>simp only [newAt];exact newAt_congr l (i+1) fun k hk=>by rw [hq,if_neg (by omega)]
  | pt k0 cs=>simp only [newAt];exact newAt_congr l (i+1) fun k hk=>by rw [hq,if_neg (by omega)]
 | .no::l,i,k+1,x,h,hx,hq=>by
  simp only [newAt]
  exact newAt_same l (i+1) k x (by simpa using h) hx fun m=>by rw [hq];congr 1;rw [show i+1+k=i+(k+1) by omega]
 | .lt _::l,i,k+1,x,h,hx,hq=>by
  simp only [newAt]
  exact newAt_same l (i+1) k x (by simpa using h) hx fun m=>by rw [hq];congr 1;rw [show i+1+k=i+(k+1) by omega]
 | .pt _ _::l,i,k+1,x,h,hx,hq=>by
  simp only [newAt]
  exact newAt_same l (i+1) k x (by simpa using h) hx fun m=>by rw [hq];congr 1;rw [show i+1+k=i+(k+1) by omega]
 | .al c::l,i,k+1,x,h,hx,hq=>by
  simp only [newAt]
  rw [newAt_same (p:=p) l (i+1) k x (by simpa using h) hx fun m=>by rw [hq];congr 1;rw [show i+1+k=i+(k+1) by omega]]
  rw [hq i,if_neg (by omega)]
def Free {El:TypeId→Type} (p:Nat→Bool) (l:List (Nw El)) (i k:Nat): Prop:=∀j k' cs,l[j]? = some (.pt k' cs)→p (i+j)= true→k'≠k
theorem Free.tail {p:Nat→Bool} {x:Nw C.S.El} {l:List (Nw C.S.El)} {i k:Nat} (h:Free p (x::l) i k): Free p l (i+1) k:=fun j k' cs hj hp=>h (j+1) k' cs (by simpa using hj) (by rw [show i+(j+1)= i+1+j by omega];exact hp)
theorem putsAt_comm {p:Nat→Bool} {k:Nat} {X:AObj C.S.El}: ∀(l:List (Nw C.S.El)) (i:Nat) (N:List (AObj C.S.El)),Free p l i k→putsAt p l i (N.set k X)= (putsAt p l i N).set k X
 | [],_,_,_=>rfl
 | .no::l,i,N,h=>putsAt_comm l (i+1) N h.tail
 | .lt _::l,i,N,h=>putsAt_comm l (i+1) N h.tail
 | .al _::l,i,N,h=>putsAt_comm l (i+1) N h.tail
 | .pt k' cs::l,i,N,h=>by
  simp only [putsAt]
  rw [←putsAt_comm l (i+1) _ h.tail]
  congr 1
  cases hp:p i
  ·rfl
  ·rw [cond_true,cond_true,setN_eq,setN_eq]
   exact List.set_comm _ _ (fun e=>h 0 k' cs (by simp) (by simpa using hp) e.symm)
theorem putsAt_get {p:Nat→Bool} {k:Nat}: ∀(l:List (Nw C.S.El)) (i:Nat) (N:List (AObj C.S.El)),Free p l i k→(putsAt p l i N)[k]? = N[k]?
 | [],_,_,_=>rfl
 | .no::l,i,N,h=>putsAt_get l (i+1) N h.tail
 | .lt _::l,i,N,h=>putsAt_get l (i+1) N h.tail
 | .al _::l,i,N,h=>putsAt_get l (i+1) N h.tail
 | .pt k' cs::l,i,N,h=>by
  simp only [putsAt]
  rw [putsAt_get l (i+1) _ h.tail]
  cases hp:p i
  ·rfl
  ·rw [cond_true,setN_eq,List.getElem?_set_ne (h 0 k' cs (by simp) (by simpa using hp))]
theorem putsAt_put {p q:Nat→Bool}: ∀(l:List (Nw C.S.El)) (i j k:Nat) (cs:List (AV C.S.El)) (N:List (AObj C.S.El)),l[j]? = some (.pt k cs)→p (i+j)= false→Free p l i k→(∀m,q m=if m=i+j then true else p m)→putsAt q l i N=(putsAt p l i N).set k (.cells cs)
 | [],i,j,k,cs,N,h,_,_,_=>by simp at h
 | x::l,i,0,k,cs,N,h,hp,hf,hq=>by
  simp only [List.getElem?_cons_zero,Option.some.injEq] at h
  subst h
  simp only [Nat.add_zero] at hp
  have h0:=hq i
  rw [Nat.add_zero,if_pos rfl] at h0
  simp only [putsAt,h0,hp,cond_true,cond_false]
  rw [←putsAt_comm l (i+1) N hf.tail,setN_eq,putsAt_congr (p:=q) (q:=p) l (i+1) _ fun k hk=>by rw [hq,if_neg (by omega)]]
 | .no::l,i,j+1,k,cs,N,h,hp,hf,hq=>by
  simp only [putsAt]
  exact putsAt_put l (i+1) j k cs N (by simpa using h) (by rw [show i+1+j=i+(j+1) by omega];exact hp) hf.tail fun m=>by rw [hq];congr 1;rw [show i+1+j=i+(j+1) by omega]
 | .lt _::l,i,j+1,k,cs,N,h,hp,hf,hq=>by
  simp only [putsAt]
  exact putsAt_put l (i+1) j k cs N (by simpa using h) (by rw [show i+1+j=i+(j+1) by omega];exact hp) hf.tail fun m=>by rw [hq];congr 1;rw [show i+1+j=i+(j+1) by omega]
 | .al _::l,i,j+1,k,cs,N,h,hp,hf,hq=>by
  simp only [putsAt]
  exact putsAt_put l (i+1) j k cs N (by simpa using h) (by rw [show i+1+j=i+(j+1) by omega];exact hp) hf.tail fun m=>by rw [hq];congr 1;rw [show i+1+j=i+(j+1) by omega]
 | .pt k' cs'::l,i,j+1,k,cs,N,h,hp,hf,hq=>by
  simp only [putsAt]
  rw [putsAt_put (p:=p) (q:=q) l (i+1) j k cs _ (by simpa using h) (by rw [show i+1+j=i+(j+1) by omega];exact hp) hf.tail fun m=>by rw [hq];congr 1;rw [show i+1+j=i+(j+1) by omega]]
  rw [hq i,if_neg (by omega)]
def isPt {El:TypeId→Type}: Nw El→Bool
 | .pt .. => true
 | _=>false
theorem putsAt_same {p q:Nat→Bool}: ∀(l:List (Nw C.S.El)) (i j:Nat) (x:Nw C.S.El) (N:List (AObj C.S.El)),l[j]? = some x→isPt x=false→(∀m,q m=if m=i+j then true else p m)→putsAt q l i N=putsAt p l i N
 | [],i,j,x,N,h,_,_=>by simp at h
 | y::l,i,0,x,N,h,hx,hq=>by
  simp only [List.getElem?_cons_zero,Option.some.injEq] at h
  subst h
  cases y with
  | pt k0 cs=>cases hx
  | no=>simp only [putsAt];exact putsAt_congr l (i+1) _ fun k hk=>by rw [hq,if_neg (by omega)]
  | lt _=>simp only [putsAt];exact putsAt_congr l (i+1) _ fun k hk=>by rw [hq,if_neg (by omega)]
  | al cs=>simp only [putsAt];exact putsAt_congr l (i+1) _ fun k hk=>by rw [hq,if_neg (by omega)]
 | .no::l,i,j+1,x,N,h,hx,hq=>by
  simp only [putsAt]
  exact putsAt_same l (i+1) j x N (by simpa using h) hx fun m=>by rw [hq];congr 1;rw [show i+1+j=i+(j+1) by omega]
 | .lt _::l,i,j+1,x,N,h,hx,hq=>by
  simp only [putsAt]
  exact putsAt_same l (i+1) j x N (by simpa using h) hx fun m=>by rw [hq];congr 1;rw [show i+1+j=i+(j+1) by omega]
 | .al _::l,i,j+1,x,N,h,hx,hq=>by
  simp only [putsAt]
  exact putsAt_same l (i+1) j x N (by simpa using h) hx fun m=>by rw [hq];congr 1;rw [show i+1+j=i+(j+1) by omega]
 | .pt k' cs'::l,i,j+1,x,N,h,hx,hq=>by
  simp only [putsAt]
  rw [putsAt_same (p:=p) (q:=q) l (i+1) j x _ (by simpa using h) hx fun m=>by rw [hq];congr 1;rw [show i+1+j=i+(j+1) by omega]]
  rw [hq i,if_neg (by omega)]
theorem objsAt_same {p q:Nat→Bool} {l:List (Nw C.S.El)} {i:Nat} {x:Nw C.S.El} (h:l[i]? = some x) (hx1:isAl x=false) (hx2:isPt x=false) (hq : ∀m,q m=if m=0+i then true else p m): objsAt q l=objsAt p l:=by
 unfold objsAt
 rw [newAt_same l 0 i _ h hx1 hq,putsAt_same l 0 i _ _ h hx2 hq]
theorem objsAt_al {p q:Nat→Bool} {l:List (Nw C.S.El)} {i:Nat} {cs:AObj C.S.El} (h:l[i]? = some (.al cs)) (hf:Free p l 0 (cnt (l.take i))) (hq : ∀m,q m=if m=0+i then true else p m): objsAt q l=(objsAt p l).set (cnt (l.take i)) cs:=by
 unfold objsAt
 rw [putsAt_same l 0 i _ _ h rfl hq,newAt_set l 0 i cs h hq,putsAt_comm l 0 _ hf]
theorem objsAt_get {p:Nat→Bool} {l:List (Nw C.S.El)} {i:Nat} {cs:AObj C.S.El} (h:l[i]? = some (.al cs)) (hf:Free p l 0 (cnt (l.take i))): (objsAt p l)[cnt (l.take i)]? = some (bif p i then cs else .gone):= by
 unfold objsAt
 rw [putsAt_get l 0 _ hf,newAt_get l 0 i cs h,Nat.zero_add]
theorem objsAt_pt {p q:Nat→Bool} {l:List (Nw C.S.El)} {i k:Nat} {cs:List (AV C.S.El)} (h:l[i]? = some (.pt k cs)) (hp:p i=false) (hf:Free p l 0 k) (hq : ∀m,q m=if m=0+i then true else p m): objsAt q l=(objsAt p l).set k (.cells cs):= by
 unfold objsAt
 rw [newAt_same l 0 i _ h rfl hq,putsAt_put l 0 i k cs _ h (by rw [Nat.zero_add];exact hp) hf hq]
theorem putsAt_shift : ∀(l:List (Nw C.S.El)) (i j:Nat) (N:List (AObj C.S.El)),putsAt (fun _=>true) l i N=putsAt (fun _=>true) l j N
 | [],_,_,_=>rfl
 | .no::l,i,j,N=>putsAt_shift l (i+1) (j+1) N
 | .lt _::l,i,j,N=>putsAt_shift l (i+1) (j+1) N
 | .al _::l,i,j,N=>putsAt_shift l (i+1) (j+1) N
 | .pt _ _::l,i,j,N=>by simp only [putsAt,cond_true];exact putsAt_shift l (i+1) (j+1) _
theorem newAt_shift : ∀(l:List (Nw C.S.El)) (i j:Nat),newAt (fun _=>true) l i=newAt (fun _=>true) l j
 | [],_,_=>rfl
 | .no::l,i,j=>newAt_shift l (i+1) (j+1)
 | .lt _::l,i,j=>newAt_shift l (i+1) (j+1)
 | .pt _ _::l,i,j=>newAt_shift l (i+1) (j+1)
 | .al _::l,i,j=>by simp only [newAt,cond_true];rw [newAt_shift l (i+1) (j+1)]
def PutsIn {El:TypeId→Type}: List (Nw El)→Nat→Prop
 | [],_=>True
 | .no::l,n=>PutsIn l n
 | .lt _::l,n=>PutsIn l n
 | .al _::l,n=>PutsIn l (n+1)
 | .pt k _::l,n=>k < n∧PutsIn l n
theorem fold_objsAt : ∀(l:List (Nw C.S.El)) (N:List (AObj C.S.El)),PutsIn l N.length→l.foldl stepN N=putsAt (fun _=>true) l 0 (N ++ newAt (fun _=>true) l 0)
 | [],N,_=>by simp [putsAt,newAt]
 | .no::l,N,h=>by
  simp only [List.foldl_cons,stepN,putsAt,newAt]
  rw [fold_objsAt l N h,putsAt_shift l 0 (0+1),newAt_shift l 0 (0+1)]
 | .lt _::l,N,h=>by
  simp only [List.foldl_cons,stepN,putsAt,newAt]
  rw [fold_objsAt l N h,putsAt_shift l 0 (0+1),newAt_shift l 0 (0+1)]
 | .al cs::l,N,h=>by
  simp only [List.foldl_cons,stepN,putsAt,newAt,cond_true]
  rw [fold_objsAt l (N ++ [cs]) (by simpa [PutsIn] using h),putsAt_shift l 0 (0+1),newAt_shift l 0 (0+1),List.append_assoc,List.singleton_append]
 | .pt k cs::l,N,h=>by
  simp only [PutsIn] at h
  simp only [List.foldl_cons,stepN,putsAt,newAt,cond_true]
  rw [fold_objsAt l _ (by rw [setN_eq,List.length_set];exact h.2),putsAt_shift l 0 (0+1),newAt_shift l 0 (0+1),setN_eq,setN_eq,List.set_append_left _ _ h.1]
theorem fold_len : ∀(l:List (Nw C.S.El)) (N:List (AObj C.S.El)),(l.foldl stepN N).length=N.length+cnt l
 | [],N=>by simp [cnt]
 | .no::l,N=>by simp only [List.foldl_cons,stepN,cnt,fold_len l]
 | .lt _::l,N=>by simp only [List.foldl_cons,stepN,cnt,fold_len l]
 | .al cs::l,N=>by simp only [List.foldl_cons,stepN,cnt,fold_len l,List.length_append,List.length_singleton];omega
 | .pt k cs::l,N=>by simp only [List.foldl_cons,stepN,cnt,fold_len l,setN_eq,List.length_set]
theorem foldD_mem : ∀(l:List (Nw C.S.El)) (D:List Nat) (k:Nat),k∈l.foldl stepD D ↔ k∈D∨∃(j:Nat) (cs:List (AV C.S.El)),l[j]? = some (Nw.pt k cs)
 | [],D,k=>by simp
 | x::l,D,k=>by
  rw [List.foldl_cons,foldD_mem l]
  have h0:(∃(j:Nat) (cs:List (AV C.S.El)),(x::l)[j]? = some (Nw.pt k cs)) ↔ (∃cs,x=Nw.pt k cs)∨∃(j:Nat) (cs:List (AV C.S.El)),l[j]? = some (Nw.pt k cs):= by
   constructor
   ·rintro ⟨j,cs,h⟩
    cases j with
    | zero=>simp only [List.getElem?_cons_zero,Option.some.injEq] at h;exact .inl ⟨cs,h⟩
    | succ j=>exact .inr ⟨j,cs,by simpa using h⟩
   ·rintro (⟨cs,rfl⟩| ⟨j,cs,h⟩)
    ·exact ⟨0,cs,by simp⟩
    ·exact ⟨j+1,cs,by simpa using h⟩
  rw [h0]
  cases x with
  | no=>simp [stepD]
  | lt _=>simp [stepD]
  | al cs=>simp [stepD]
  | pt k' cs =>
   simp only [stepD,List.mem_cons,Nw.pt.injEq]
   constructor
   ·rintro ((rfl | h)| h)
    ·exact .inr (.inl ⟨cs,rfl,rfl⟩)
    ·exact .inl h
    ·exact .inr (.inr h)
   ·rintro (h | ⟨_,rfl,_⟩| h)
    ·exact .inl (.inr h)
    ·exact .inl (.inl rfl)
    ·exact .inr h
theorem fold_al : ∀(l:List (Nw C.S.El)) (N:List (AObj C.S.El)) (k:Nat) (x:AObj C.S.El),(l.foldl stepN N)[k]? = some x→(∀(j:Nat) (cs:List (AV C.S.El)),l[j]?≠some (Nw.pt k cs))→N[k]? = some x∨∃(j:Nat) (cs:AObj C.S.El),l[j]? = some (Nw.al cs)∧N.length+cnt (l.take j)= k∧x=cs
 | [],N,k,x,h,_ => .inl h
 | y::l,N,k,x,h,hn=>by
  rw [List.foldl_cons] at h
  have hn' : ∀(j:Nat) (cs:List (AV C.S.El)),l[j]?≠some (Nw.pt k cs):= fun j cs hj=>hn (j+1) cs (by simpa using hj)
  rcases fold_al l _ k x h hn' with h1 | ⟨j,cs,h1,h2,h3⟩
  ·cases y with
   | no=>exact .inl h1
   | lt _=>exact .inl h1
   | al cs =>
    simp only [stepN] at h1
    rcases Nat.lt_or_ge k N.length with hk | hk
    ·rw [List.getElem?_append_left hk] at h1;exact .inl h1
    ·rw [List.getElem?_append_right hk] at h1
     have:k - N.length=0:=by
      rcases Nat.eq_zero_or_pos (k - N.length) with h | h
      ·exact h
      ·rw [List.getElem?_eq_none (by simp;omega)] at h1;cases h1
     rw [this] at h1
     simp only [List.getElem?_cons_zero,Option.some.injEq] at h1
     exact .inr ⟨0,cs,by simp,by simp [cnt];omega,h1.symm⟩
   | pt k' cs =>
    simp only [stepN,setN_eq] at h1
    by_cases hk:k'=k
    ·subst hk;exact absurd (by simp) (hn 0 cs)
    ·rw [List.getElem?_set_ne hk] at h1;exact .inl h1
  ·refine .inr ⟨j+1,cs,by simpa using h1, ?_,h3⟩
   rw [List.take_succ_cons]
   cases y <;> simp only [stepN,cnt,setN_eq,List.length_append,List.length_set,List.length_singleton] at h2 ⊢<;> omega
theorem cnt_inj : ∀(l:List (Nw C.S.El)) (k k':Nat) (a b:AObj C.S.El),l[k]? = some (.al a)→l[k']? = some (.al b)→cnt (l.take k)= cnt (l.take k')→k=k'
 | [],k,k',a,b,h,_,_=>by simp at h
 | x::l,0,0,a,b,_,_,_=>rfl
 | .al c::l,0,k'+1,a,b,h,h',e=>by simp [cnt] at e
 | .no::l,0,k'+1,a,b,h,h',e=>by simp at h
 | .lt _::l,0,k'+1,a,b,h,h',e=>by simp at h
 | .pt _ _::l,0,k'+1,a,b,h,h',e=>by simp at h
 | .al c::l,k+1,0,a,b,h,h',e=>by simp [cnt] at e
 | .no::l,k+1,0,a,b,h,h',e=>by simp at h'
 | .lt _::l,k+1,0,a,b,h,h',e=>by simp at h'
 | .pt _ _::l,k+1,0,a,b,h,h',e=>by simp at h'
 | .no::l,k+1,k'+1,a,b,h,h',e=>by
  simp only [List.take_succ_cons,cnt] at e
  rw [cnt_inj l k k' a b (by simpa using h) (by simpa using h') e]
 | .lt _::l,k+1,k'+1,a,b,h,h',e=>by
  simp only [List.take_succ_cons,cnt] at e
  rw [cnt_inj l k k' a b (by simpa using h) (by simpa using h') e]
 | .pt _ _::l,k+1,k'+1,a,b,h,h',e=>by
  simp only [List.take_succ_cons,cnt] at e
  rw [cnt_inj l k k' a b (by simpa using h) (by simpa using h') e]
 | .al c::l,k+1,k'+1,a,b,h,h',e=>by
  simp only [List.take_succ_cons,cnt,Nat.add_right_cancel_iff] at e
  rw [cnt_inj l k k' a b (by simpa using h) (by simpa using h') e]
def stepH {El:TypeId→Type} (H:List (AObj El)): Nw El→List (AObj El)
 | .lt q=>putQ H q
 | _=>H
def lateAt {El:TypeId→Type} (p:Nat→Bool): List (Nw El)→Nat→List (AObj El)→List (AObj El)
 | [],_,H=>H
 | nw::l,i,H=>lateAt p l (i+1) (bif p i then stepH H nw else H)
theorem putL_len (H:List (AObj C.S.El)) (j off:Nat) (new:List (AV C.S.El)): (putL H j off new).length=H.length:=by
 unfold putL
 split
 ·rw [setN_eq,List.length_set]
 ·rfl
theorem putQ_len (H:List (AObj C.S.El)) (q:LtK C.S.El): (putQ H q).length=H.length:=by
 cases q with
 | st j off new=>exact putL_len H j off new
 | ap a k o=>simp only [putQ,setN_eq,List.length_set]
theorem putQ_other {H:List (AObj C.S.El)} {q:LtK C.S.El} {j:Nat} (h:j∉touch q): obj (putQ H q) j=obj H j:=by
 cases q with
 | st jj off new =>
  have hne:jj≠j:=fun e=>h (by simp [touch,e])
  simp only [putQ,putL]
  cases hj:obj H jj with
  | cells cs =>
   simp only [setN_eq,obj_nth]
   rw [List.getElem?_set_ne hne]
  | _=>rfl
 | ap a k o =>
  have h1:a≠j:=fun e=>h (by simp [touch,e])
  have h2:k≠j:=fun e=>h (by simp [touch,e])
  simp only [putQ,setN_eq,obj_nth]
  rw [List.getElem?_set_ne h2,List.getElem?_set_ne h1]
theorem stepH_len (H:List (AObj C.S.El)) (nw:Nw C.S.El): (stepH H nw).length=H.length:=by
 cases nw <;> simp only [stepH,putQ_len]
theorem lateAt_len (p:Nat→Bool): ∀(l:List (Nw C.S.El)) (i:Nat) (H:List (AObj C.S.El)),(lateAt p l i H).length=H.length
 | [],_,H=>rfl
 | nw::l,i,H=>by
  rw [lateAt,lateAt_len p l]
  cases p i
  ·rfl
  ·rw [cond_true,stepH_len]
theorem foldH_len : ∀(l:List (Nw C.S.El)) (H:List (AObj C.S.El)),(l.foldl stepH H).length=H.length
 | [],H=>rfl
 | nw::l,H=>by rw [List.foldl_cons,foldH_len l,stepH_len]
theorem lateAt_congr {p q:Nat→Bool}: ∀(l:List (Nw C.S.El)) (i:Nat) (H:List (AObj C.S.El)),(∀k u,l[k]? = some (Nw.lt u)→p (i+k)= q (i+k))→lateAt p l i H=lateAt q l i H
 | [],_,_,_=>rfl
 | nw::l,i,H,h=>by
  have ih:=fun H=>lateAt_congr (p:=p) (q:=q) l (i+1) H fun k u hk=>by
   have:=h (k+1) u (by simpa using hk)
   rw [show i+1+k=i+(k+1) by omega];exact this
  simp only [lateAt]
  rw [ih]
  congr 1
  cases nw with
  | lt u =>
   have:=h 0 u (by simp)
   rw [Nat.add_zero] at this
   rw [this]
  | _=>cases p i <;> cases q i <;> rfl
theorem lateAt_false {p:Nat→Bool}: ∀(l:List (Nw C.S.El)) (i:Nat) (H:List (AObj C.S.El)),(∀k,p (i+k)= false)→lateAt p l i H=H
 | [],_,_,_=>rfl
 | nw::l,i,H,h=>by
  have h0:=h 0
  rw [Nat.add_zero] at h0
  rw [lateAt,h0,cond_false]
  exact lateAt_false l (i+1) H fun k=>by have:=h (k+1);rw [show i+1+k=i+(k+1) by omega];exact this
theorem lateAt_other {p:Nat→Bool} {j:Nat}: ∀(l:List (Nw C.S.El)) (i:Nat) (H:List (AObj C.S.El)),(∀(k:Nat) (u:LtK C.S.El),l[k]? = some (Nw.lt u)→j∉touch u)→obj (lateAt p l i H) j=obj H j
 | [],i,H,_=>rfl
 | nw::l,i,H,h=>by
  rw [lateAt,lateAt_other l (i+1) _ fun k u hk=>h (k+1) u (by simpa using hk)]
  cases p i with
  | false=>rfl
  | true =>
   rw [cond_true]
   cases nw with
   | lt u=>exact putQ_other (h 0 u (by simp))
   | _=>rfl
theorem lateAt_take : ∀(l:List (Nw C.S.El)) (i k:Nat) (H:List (AObj C.S.El)),lateAt (fun j=>decide (j < i+k)) l i H=(l.take k).foldl stepH H
 | [],i,k,H=>by simp [lateAt]
 | nw::l,i,0,H=>by
  rw [lateAt_false _ _ _ (fun k=>by simp)]
  simp
 | nw::l,i,k+1,H=>by
  rw [List.take_succ_cons,List.foldl_cons,←lateAt_take l (i+1) k,lateAt,show decide (i < i+(k+1))= true by simp,cond_true]
  congr 1
  funext j
  congr 1
  rw [show i+1+k=i+(k+1) by omega]
theorem lateAt_true (l:List (Nw C.S.El)) (H:List (AObj C.S.El)): lateAt (fun _=>true) l 0 H=l.foldl stepH H:=by
 have:=lateAt_take l 0 l.length H
 rw [List.take_length] at this
 rw [←this]
 exact lateAt_congr l 0 H fun k u hk=>by
  have:=(List.getElem?_eq_some_iff.1 hk).1
  simp;omega
theorem take_foldl_get {l:List (Nw C.S.El)} {k:Nat} {nw:Nw C.S.El} (h:l[k]? = some nw) (H:List (AObj C.S.El)): (l.take (k+1)).foldl stepH H=stepH ((l.take k).foldl stepH H) nw:=by
 rw [List.take_add_one,h,List.foldl_append];rfl
def pushS (st:St C.S.El) (d:Option Nat) (x:AV C.S.El): St C.S.El:={st with slots:=match d with | some d=>(d,x):: st.slots | none=>st.slots}
def LexOk (C:Cx) (Tg:List Nat) (all:List Oper) (Lt:List Nat): Nat→List Oper→List (Option Nat×AV C.S.El)→List (Nw C.S.El)→List (AObj C.S.El)→List Nat→St C.S.El→Prop
 | _,_,[],_,_,_,_=>True
 | i,o::l,(d,x):: vs,nw::ns,N,D,st=>d=o.dst∧(∀t,d=some t→t < st.n)∧StepOk C Tg all Lt i st N D o x nw∧LexOk C Tg all Lt (i+1) l vs ns (stepN N nw) (stepD D nw) {pushS st d x with objs:=stepH st.objs nw}
 | _,[],_::_,_,_,_,_=>False
 | _,_::_,_::_,[],_,_,_=>False
theorem putD_push {st st':St C.S.El} {d:Option Nat} {x:AV C.S.El} (h:putD st d x=some st'): st'=pushS st d x∧∀t,d=some t→t < st.n:=by
 unfold putD at h
 cases d with
 | none=>cases h;exact ⟨rfl,by simp⟩
 | some d =>
  obtain ⟨hd,h⟩:= cond_some h
  cases h
  refine ⟨rfl,fun t ht=>?_⟩
  cases ht
  simp only [Nat.blt,Nat.ble_eq] at hd
  omega
theorem slotsOf_start : ∀(vs:List (Option Nat×AV C.S.El)) (i j:Nat) (s:List (Nat×AV C.S.El)),slotsOf s (fun _=>true) vs i=slotsOf s (fun _=>true) vs j
 | [],_,_,_=>rfl
 | (d,y):: vs,i,j,s=>by simp only [slotsOf,cond_true];exact slotsOf_start vs _ _ _
theorem evDs_spec {Tg:List Nat} {all:List Oper} {Lt:List Nat}: ∀(i m:Nat) (l:List Oper) (st:St C.S.El) (N:List (AObj C.S.El)) (D:List Nat) (K:List Oper→St C.S.El→Prop),evDs C Tg all Lt i m l st N D K→∃vs ns,LexOk C Tg all Lt i l vs ns N D st∧vs.length=min m l.length∧ns.length=vs.length∧
  K (l.drop m) {st with slots:=slotsOf st.slots (fun _=>true) vs 0,objs:=ns.foldl stepH st.objs ++ ns.foldl stepN N}
 | i,0,l,st,N,D,K,h=>⟨[],[],by simp [LexOk],by simp,rfl,by simpa [evDs,slotsOf] using h⟩
 | i,m+1,[],st,N,D,K,h=>⟨[],[],by simp [LexOk],by simp,rfl,by simpa [evDs,slotsOf] using h⟩
 | i,m+1,o::l,st,N,D,K,h=>by
  have key : ∀x st' nw,putD st o.dst x=some st'→StepOk C Tg all Lt i st N D o x nw→evDs C Tg all Lt (i+1) m l {st' with objs:=stepH st.objs nw} (stepN N nw) (stepD D nw) K→
    ∃vs ns,LexOk C Tg all Lt i (o::l) vs ns N D st∧vs.length=min (m+1) (o::l).length∧ns.length=vs.length∧K ((o::l).drop (m+1)) {st with slots:=slotsOf st.slots (fun _=>true) vs 0,objs:=ns.foldl stepH st.objs ++ ns.foldl stepN N}:= by
   intro x st' nw hput hstep hrest
   obtain ⟨rfl,hb⟩:= putD_push hput
   obtain ⟨vs,ns,h1,h2,h3,h4⟩:= evDs_spec (i+1) m l _ _ _ K hrest
   refine ⟨(o.dst,x):: vs,nw::ns,⟨rfl,hb,hstep,h1⟩,by simp [h2],by simp [h3], ?_⟩
   have e:slotsOf st.slots (fun _=>true) ((o.dst,x):: vs) 0=slotsOf (pushS st o.dst x).slots (fun _=>true) vs 0:=by
    simp only [slotsOf,cond_true,pushS]
    exact slotsOf_start _ _ _ _
   rw [e]
   exact h4
  have key0 : ∀x st' nw,putD st o.dst x=some st'→StepOk C Tg all Lt i st N D o x nw→stepH st.objs nw=st.objs→evDs C Tg all Lt (i+1) m l st' (stepN N nw) (stepD D nw) K→
    ∃vs ns,LexOk C Tg all Lt i (o::l) vs ns N D st∧vs.length=min (m+1) (o::l).length∧ns.length=vs.length∧K ((o::l).drop (m+1)) {st with slots:=slotsOf st.slots (fun _=>true) vs 0,objs:=ns.foldl stepH st.objs ++ ns.foldl stepN N}:= by
   intro x st' nw hput hstep he hrest
   refine key x st' nw hput hstep ?_
   rw [he]
   obtain ⟨rfl,_⟩:= putD_push hput
   exact hrest
  simp only [evDs] at h
  split at h
  ·rename_i hgd
   split at h
   ·rename_i ob x hal
    split at h
    ·rename_i st' hput
     rw [also_iff] at h
     exact key0 x st' (.al ob) hput ⟨hgd,hal,h.1⟩ rfl h.2
    ·exact h.elim
   ·split at h
    ·rename_i k cs hpt
     split at h
     ·rename_i st' hput
      rw [also_iff] at h
      exact key0 _ st' (.pt k cs) hput ⟨hgd,hpt,rfl,h.1⟩ rfl h.2
     ·exact h.elim
    ·split at h
     ·rename_i j off new hlt
      split at h
      ·rename_i st' hput
       rw [also_iff] at h
       exact key _ st' (.lt (.st j off new)) hput ⟨hgd, .inl ⟨j,off,new,rfl,hlt,rfl,h.1⟩⟩ h.2
      ·exact h.elim
     ·split at h
      ·rename_i ps a k ob x hak
       split at h
       ·rename_i st' hput
        rw [also_iff] at h
        exact key _ st' (.lt (.ap a k ob)) hput ⟨hgd, .inr ⟨a,k,ob,ps,rfl,hak,h.1⟩⟩ h.2
       ·exact h.elim
      ·cases hn:noNew C (seen Tg all Lt i o (rhoOf C st o) st.objs).length o (rhoOf C st o) <;> rw [hn] at h
       ·exact h.elim
       ·rw [cond_true] at h
        split at h
        ·rename_i ps x hev
         split at h
         ·rename_i st' hput
          rw [also_iff] at h
          exact key0 x st' .no hput (.inl ⟨hgd,hn,ps,hev,h.1⟩) rfl h.2
         ·exact h.elim
        ·split at h
         ·rename_i t mp k ok hop
          split at h
          ·rename_i n ks vs hlk
           rw [also_iff] at h
           have h2:=lkMap_sel ks vs h.2
           split at h2
           ·rename_i x hx
            split at h2
            ·rename_i st' hput
             exact key0 x st' .no hput (.inr (.inr ⟨t,mp,k,ok,n,ks,vs,hgd,hop,hlk,hx,h.1⟩)) rfl h2
            ·exact h2.elim
           ·exact h2.elim
          ·exact h.elim
         ·exact h.elim
  ·rename_i j want hgd
   split at h
   ·exact h.elim
   ·rename_i g hg
    cases hn:noNew C (seen Tg all Lt i o (rhoOf C st o) st.objs).length o (rhoOf C st o) <;> rw [hn] at h
    ·exact h.elim
    ·rw [cond_true] at h
     split at h
     ·rename_i ps y hev
      split at h
      ·rename_i st' hput
       rw [also_iff] at h
       exact key0 _ st' .no hput (.inr (.inl ⟨j,want,g,ps,y,hgd,hg,hn,hev,rfl,h.1⟩)) rfl h.2
      ·exact h.elim
     ·exact h.elim
theorem LexOk.get {Tg:List Nat} {all:List Oper} {Lt:List Nat}: ∀(i:Nat) (l:List Oper) (vs:List (Option Nat×AV C.S.El)) (ns:List (Nw C.S.El)) (N:List (AObj C.S.El)) (D:List Nat) (st:St C.S.El),LexOk C Tg all Lt i l vs ns N D st→∀k d x,vs[k]? = some (d,x)→
  ∃o nw,l[k]? = some o∧ns[k]? = some nw∧d=o.dst∧(∀t,d=some t→t < st.n)∧StepOk C Tg all Lt (i+k) {st with slots:=slotsOf st.slots (fun _=>true) (vs.take k) 0,objs:=(ns.take k).foldl stepH st.objs} ((ns.take k).foldl stepN N) ((ns.take k).foldl stepD D) o x nw
 | i,l,[],ns,N,D,st,h,k,d,x,hk=>by simp at hk
 | i,[],v::vs,ns,N,D,st,h,k,d,x,hk=>h.elim
 | i,o::l,v::vs,[],N,D,st,h,k,d,x,hk=>h.elim
 | i,o::l,(d0,x0):: vs,nw::ns,N,D,st,h,0,d,x,hk=>by
  simp only [List.getElem?_cons_zero,Option.some.injEq,Prod.mk.injEq] at hk
  obtain ⟨rfl,rfl⟩:= hk
  exact ⟨o,nw,rfl,rfl,h.1,h.2.1,h.2.2.1⟩
 | i,o::l,(d0,x0):: vs,nw::ns,N,D,st,h,k+1,d,x,hk=>by
  obtain ⟨o',nw',h1,h0,h2,h3,h4⟩:= LexOk.get (i+1) l vs ns _ _ _ h.2.2.2 k d x (by simpa using hk)
  refine ⟨o',nw',by simpa using h1,by simpa using h0,h2,h3, ?_⟩
  have e:slotsOf st.slots (fun _=>true) (((d0,x0):: vs).take (k+1)) 0=slotsOf (pushS st d0 x0).slots (fun _=>true) (vs.take k) 0:=by
   simp only [List.take_succ_cons,slotsOf,cond_true,pushS]
   exact slotsOf_start _ _ _ _
  rw [e,List.take_succ_cons,List.foldl_cons,List.foldl_cons,List.foldl_cons,show i+(k+1)= i+1+k by omega]
  exact h4
theorem lateA_some {Tg:List Nat} {all:List Oper} {Lt:List Nat} {i:Nat} {o:Oper} {rho:Operand→AV C.S.El} {H:List (AObj C.S.El)} {j off:Nat} {new:List (AV C.S.El)} (h:lateA C Tg all Lt i o rho H=some (j,off,new)):
  ∃t a x cs,o.op = .store t a x∧rho a = .ref j off∧cellsOf (rho x)= some new∧obj H j = .cells cs∧i∈Lt∧syncd all Lt i=true∧new.length=sizeT C.P t∧off+new.length≤cs.length∧new.all one=true∧(C.P.info? t).isSome=true:=by
 unfold lateA at h
 split at h
 ·rename_i t a x hop
  split at h
  ·rename_i j' off' new' ha hx
   split at h
   ·rename_i cs hobj
    obtain ⟨hc,h⟩:= cond_some h
    simp only [Bool.and_eq_true,Nat.ble_eq] at hc
    cases h
    exact ⟨t,a,x,cs,hop,ha,hx,hobj,by simpa using hc.1.1.1,hc.1.2,Nat.eq_of_beq_eq_true hc.2.1.1.1,hc.2.1.1.2,hc.2.1.2,hc.2.2⟩
   ·cases h
  ·cases h
 ·cases h
theorem lateA_tg {Tg:List Nat} {all:List Oper} {Lt:List Nat} {i:Nat} {o:Oper} {rho:Operand→AV C.S.El} {H:List (AObj C.S.El)} {j off:Nat} {new:List (AV C.S.El)} (h:lateA C Tg all Lt i o rho H=some (j,off,new)): Tg.contains j=true:=by
 unfold lateA at h
 split at h
 ·split at h
  ·split at h
   ·obtain ⟨hc,h⟩:= cond_some h
    simp only [Bool.and_eq_true,Nat.ble_eq] at hc
    cases h
    exact hc.1.1.2
   ·cases h
  ·cases h
 ·cases h
theorem apK0_some {Tg:List Nat} {all:List Oper} {Lt:List Nat} {i:Nat} {o:Oper} {rho:Operand→AV C.S.El} {H:List (AObj C.S.El)} {ps:List Prop} {a k:Nat} {ob:AObj C.S.El} {x:AV C.S.El} (h:apK0 C Tg all Lt i o rho H=some (ps,a,k,ob,x)):
  ∃c x0 t e xs ys f,o.op = .call c∧c.callee = .builtin .append∧c.args.toList.map rho=[.gs a,x0]∧c.argTypes.toList=[t,t]∧elemT C.P t=some e∧deref H x0 = .sl e ys f∧obj H a = .row e xs∧Nat.beq (sizeT C.P e) (C.S.sz e)= true∧zeroFit C.P e=true∧1≤bytesT C.P e∧
   Lt.contains i=true∧Tg.contains a=true∧Tg.contains k=true∧syncd all Lt i=true∧obj H k = .gone∧k+1=H.length∧spareB C all=true∧(∀j,j < all.length→j≠i→isApp C (nth all j)= false)∧ps=[(xs.length+ys.length)* bytesT C.P e≤140737488355328]∧ob = .row e (xs ++ ys)∧x = .gs k:=by
 unfold apK0 at h
 split at h
 case h_2=>cases h
 rename_i c hop
 split at h
 case h_2=>cases h
 rename_i hc
 split at h
 case h_2=>cases h
 rename_i a' x' t t' hargs hts
 split at h
 case h_2=>cases h
 rename_i e u ys f v xs he hd ho
 split at h
 case isFalse=>cases h
 rename_i hu
 split at h
 case isFalse=>cases h
 rename_i hv
 subst hu
 subst hv
 obtain ⟨hb,h⟩:= cond_some h
 cases h
 simp only [Bool.and_eq_true,Nat.ble_eq] at hb
 obtain ⟨⟨⟨⟨b1,b2⟩,b3⟩,b4⟩,⟨⟨⟨b5,b6⟩,b7⟩,⟨b8,b9⟩,b10⟩,b11,b12⟩:= hb
 have htt:=Nat.eq_of_beq_eq_true b1
 subst htt
 refine ⟨c,x',t,_,xs,ys,f,hop,hc,hargs,hts,he,hd,ho,b2,b3,b4,b5,b6,b7,b8, ?_,by omega,b11,fun j hj hne=>?_,rfl,rfl,rfl⟩
 ·cases hq:obj H (H.length - 1) with
  | gone=>rfl
  | _=>rw [hq] at b9;cases b9
 ·have:=(List.all_eq_true.1 b12) j (List.mem_range.2 hj)
  rw [Bool.or_eq_true] at this
  rcases this with h | h
  ·exact absurd (Nat.eq_of_beq_eq_true h) hne
  ·simpa using h
theorem apT_some {Tg:List Nat} {all:List Oper} {Lt:List Nat} {i:Nat} {o:Oper} {rho:Operand→AV C.S.El} {H:List (AObj C.S.El)} {ps:List Prop} {a k:Nat} {ob:AObj C.S.El} {x:AV C.S.El} (h:apT C Tg all Lt i o rho H=some (ps,a,k,ob,x)):
  ∃t x0 lo kk l u xs,o.op = .slice t x0 (some lo) none none∧rho x0 = .gs a∧rho lo = .v (.int kk l)∧obj H a = .row u xs∧isSl C.P t=true∧fitE C t u=true∧C.ts=true∧
   Lt.contains i=true∧Tg.contains a=true∧Tg.contains k=true∧syncd all Lt i=true∧obj H k = .gone∧k+1=H.length∧spareB C all=true∧(∀j,j < all.length→j≠i→isApp C (nth all j)= false)∧ps=[0≤l∧l≤xs.length]∧ob = .row u (xs.drop l.toNat)∧x = .gs k:=by
 unfold apT at h
 split at h
 case h_2=>cases h
 rename_i t x0 lo hop
 split at h
 case h_2=>cases h
 rename_i a' kk l hx hl
 split at h
 case h_2=>cases h
 rename_i u xs ho
 obtain ⟨hb,h⟩:= cond_some h
 cases h
 simp only [Bool.and_eq_true,Nat.ble_eq] at hb
 obtain ⟨⟨⟨b1,b2⟩,b3⟩,⟨⟨⟨b5,b6⟩,b7⟩,⟨b8,b9⟩,b10⟩,b11,b12⟩:= hb
 refine ⟨t,x0,lo,kk,l,_,xs,hop,hx,hl,ho,b1,b2,b3,b5,b6,b7,b8, ?_,by omega,b11,fun j hj hne=>?_,rfl,rfl,rfl⟩
 ·cases hq:obj H (H.length - 1) with
  | gone=>rfl
  | _=>rw [hq] at b9;cases b9
 ·have:=(List.all_eq_true.1 b12) j (List.mem_range.2 hj)
  rw [Bool.or_eq_true] at this
  rcases this with h | h
  ·exact absurd (Nat.eq_of_beq_eq_true h) hne
  ·simpa using h
theorem apK_or {Tg:List Nat} {all:List Oper} {Lt:List Nat} {i:Nat} {o:Oper} {rho:Operand→AV C.S.El} {H:List (AObj C.S.El)} {r:List Prop×Nat×Nat×AObj C.S.El×AV C.S.El} (h:apK C Tg all Lt i o rho H=some r): apK0 C Tg all Lt i o rho H=some r∨apT C Tg all Lt i o rho H=some r:=by
 unfold apK at h
 split at h
 ·rename_i r' h'
  exact .inl (h'.trans h)
 ·exact .inr h
theorem apK_com {Tg:List Nat} {all:List Oper} {Lt:List Nat} {i:Nat} {o:Oper} {rho:Operand→AV C.S.El} {H:List (AObj C.S.El)} {ps:List Prop} {a k:Nat} {ob:AObj C.S.El} {x:AV C.S.El} (h:apK C Tg all Lt i o rho H=some (ps,a,k,ob,x)):
  Lt.contains i=true∧Tg.contains a=true∧Tg.contains k=true∧k+1=H.length∧spareB C all=true∧isAT C o=true:=by
 rcases apK_or h with h | h
 ·obtain ⟨c,x0,t,e,xs,ys,f,hop,hc,_,_,_,_,_,_,_,_,h1,h2,h3,_,_,h4,h5,_⟩:= apK0_some h
  exact ⟨h1,h2,h3,h4,h5,by unfold isAT isAppend;simp [hop,hc]⟩
 ·obtain ⟨t,x0,lo,kk,l,u,xs,hop,_,_,_,_,_,ht,h1,h2,h3,_,_,h4,h5,_⟩:= apT_some h
  exact ⟨h1,h2,h3,h4,h5,by unfold isAT isTail;simp [hop,ht]⟩
theorem putA_some {o:Oper} {rho:Operand→AV C.S.El} {n:Nat} {N:List (AObj C.S.El)} {D:List Nat} {k:Nat} {cs:List (AV C.S.El)} (h:putA C o rho n N D=some (k,cs)):
  ∃t a x old,o.op = .store t a x∧rho a = .ref (n+k) 0∧cellsOf (rho x)= some cs∧k∉D∧N[k]? = some (.cells old)∧cs.length=sizeT C.P t∧cs.length=old.length∧cs.all one=true∧(C.P.info? t).isSome=true:=by
 unfold putA at h
 split at h
 ·rename_i t a x hop
  split at h
  ·rename_i i off new ha hx
   obtain ⟨hc,h'⟩:= cond_some h
   clear h
   simp only [Bool.and_eq_true,Nat.ble_eq,Bool.not_eq_true'] at hc
   obtain ⟨⟨h1,h2⟩,h3⟩:= hc
   have:=Nat.eq_of_beq_eq_true h1
   subst this
   split at h'
   ·rename_i old hN
    obtain ⟨hd,h⟩:= cond_some h'
    clear h'
    simp only [Bool.and_eq_true] at hd
    cases h
    refine ⟨t,a,x,old,hop,by rw [ha];congr 1;omega,hx,fun hm=>?_,by rw [←nth_eq];exact hN,Nat.eq_of_beq_eq_true hd.1.1.1,Nat.eq_of_beq_eq_true hd.1.1.2,hd.1.2,hd.2⟩
    rw [List.contains_iff_mem.2 hm] at h3;cases h3
   ·cases h'
  ·cases h
 ·cases h
theorem over_eq {El:TypeId→Type}: ∀(xs cs:List (AV El)) (off:Nat),off+xs.length≤cs.length→over cs off xs=cs.take off ++ xs ++ cs.drop (off+xs.length)
 | [],cs,off,h=>by simp [over]
 | x::xs,cs,off,h=>by
  simp only [List.length_cons] at h
  rw [over,over_eq xs _ (off+1) (by rw [setN_eq,List.length_set];omega),setN_eq]
  have h1:off < cs.length:=by omega
  rw [List.drop_set_of_lt (by omega),List.take_set,List.take_add_one,List.getElem?_eq_getElem h1]
  have h2:(cs.take off).length=off:=by rw [List.length_take];omega
  simp only [Option.toList_some,List.length_cons]
  rw [List.set_append_right _ _ (by omega),h2,Nat.sub_self,List.set_cons_zero,show off+1+xs.length=off+(xs.length+1) by omega]
  simp only [List.append_assoc,List.singleton_append,List.cons_append,List.nil_append]
theorem over_full {El:TypeId→Type} (old cs:List (AV El)) (h:old.length=cs.length): over old 0 cs=cs:=by
 rw [over_eq cs old 0 (by omega)]
 simp [←h]
theorem LexOk.putsIn {Tg:List Nat} {all:List Oper} {Lt:List Nat}: ∀(i:Nat) (l:List Oper) (vs:List (Option Nat×AV C.S.El)) (ns:List (Nw C.S.El)) (N:List (AObj C.S.El)) (D:List Nat) (st:St C.S.El),LexOk C Tg all Lt i l vs ns N D st→ns.length=vs.length→PutsIn ns N.length
 | i,l,vs,[],N,D,st,h,_=>trivial
 | i,l,[],n::ns,N,D,st,h,hl=>by simp at hl
 | i,[],v::vs,n::ns,N,D,st,h,_=>h.elim
 | i,o::l,(d0,x0):: vs,nw::ns,N,D,st,h,hl=>by
  have ih:=LexOk.putsIn (i+1) l vs ns _ _ _ h.2.2.2 (by simpa using hl)
  cases nw with
  | no=>exact ih
  | lt _=>exact ih
  | al cs=>simp only [stepN,List.length_append,List.length_singleton] at ih;exact ih
  | pt k cs =>
   simp only [stepN,setN_eq,List.length_set] at ih
   obtain ⟨_,_,_,old,_,_,_,_,hN,_⟩:= putA_some h.2.2.1.2.1
   exact ⟨(List.getElem?_eq_some_iff.1 hN).1,ih⟩
theorem put_at (hI:Inv C.S B env w H) {k:Nat} {ob:AObj C.S.El} (hk:k < H.length) (hg:obj H k = .gone) (hv:env.val k=none) {us:Array Value} {T:TypeId} {u:Value} (hu:blkV u=some w.heap.size)
  (hO : ∀env':Env,Ext B H.length env w env' (w.alloc (.cells us T))→ObjOk C.S env' (w.alloc (.cells us T)) B (some u) ob):
  Inv C.S B ⟨fun i=>if i=k then some u else env.val i,env.prot⟩ (w.alloc (.cells us T)) (H.set k ob)∧
  Ext B H.length env w ⟨fun i=>if i=k then some u else env.val i,env.prot⟩ (w.alloc (.cells us T)):= by
 have hOM:=oneMore_alloc w (.cells us T)
 have hN:=hI.fresh
 have hE:Ext B H.length env w ⟨fun i=>if i=k then some u else env.val i,env.prot⟩ (w.alloc (.cells us T)):=
  ⟨hOM.below.mono hI.base,fun i v hi h=>by simp only;rw [if_neg (fun e=>by subst e;rw [hv] at h;cases h)];exact h,fun _ _ h=>h,fun b o hp=>hOM.below.block b (hI.inheap b o hp),fun _ _ h => .inl h⟩
 have ho : ∀i,obj (H.set k ob) i=if k=i then ob else obj H i:=fun i=>by rw [←setN_eq];exact obj_set H k i _ hk
 refine ⟨⟨fun i=>?_,fun i v b hl e1 e2 o hp=>?_,fun i j v v' b hl hl' e1 e2 e3 e4=>?_,fun b o hp=>Nat.lt_of_lt_of_le (hI.inheap b o hp) hOM.below.size,fun i v h=>?_,fun g=>(hI.glob g).ext hE hN,Nat.le_trans hI.base hOM.below.size⟩,hE⟩
 ·rw [ho]
  by_cases h:k=i
  ·subst h
   simp only [if_true]
   exact hO _ hE
  ·simp only [if_neg h,if_neg (Ne.symm h)]
   exact (hI.objs i).ext hE hN (fun v b h1 h2 h3=>hOM.below.block b (live_block hI h1 h2 h3))
 ·rw [ho] at hl
  by_cases h:k=i
  ·subst h
   simp only [if_true,Option.some.injEq] at e1
   subst e1
   rw [hu] at e2
   cases e2
   exact (Nat.lt_irrefl w.heap.size (hI.inheap _ o hp)).elim
  ·simp only [if_neg h] at hl
   simp only [if_neg (Ne.symm h)] at e1
   exact hI.free i v b hl e1 e2 o hp
 ·rw [ho] at hl hl'
  by_cases h:k=i <;> by_cases h':k=j
  ·omega
  ·subst h
   simp only [if_true,Option.some.injEq] at e1
   subst e1
   rw [hu] at e3
   cases e3
   simp only [if_neg h'] at hl'
   simp only [if_neg (Ne.symm h')] at e2
   exact (Nat.lt_irrefl w.heap.size (live_block hI e2 e4 hl')).elim
  ·subst h'
   simp only [if_true,Option.some.injEq] at e2
   subst e2
   rw [hu] at e4
   cases e4
   simp only [if_neg h] at hl
   simp only [if_neg (Ne.symm h)] at e1
   exact (Nat.lt_irrefl w.heap.size (live_block hI e1 e3 hl)).elim
  ·simp only [if_neg h] at hl
   simp only [if_neg (Ne.symm h)] at e1
   simp only [if_neg h'] at hl'
   simp only [if_neg (Ne.symm h')] at e2
   exact hI.apart i j v v' b hl hl' e1 e2 e3 e4
 ·simp only at h
  rw [List.length_set]
  by_cases hik:i=k
  ·omega
  ·rw [if_neg hik] at h;exact hN i v h
theorem alloc_does (hC:CxOk C) (hI:Inv C.S B env w H) {all:List Oper} {o:Oper} {a:Act} {rho:Operand→AV C.S.El} (hρ : ∀x∈o.op.operands.toList,Γ C.S env w (rho x) (a.eval x)) {j:Nat} {ob:AObj C.S.El} {x:AV C.S.El} (h:allocO C all o rho j=some (ob,x)) (hnc : ∀c,o.op≠ .call c):
  Does C.P o a w fun v w' => ∃us T,w'=w.alloc (.cells us T)∧blkV v=some w.heap.size∧(∀env':Env,Ext B H.length env w env' (w.alloc (.cells us T))→ObjOk C.S env' (w.alloc (.cells us T)) B (some v) ob)∧∀(env':Env) (w1:World),env'.val j=some v→Γ C.S env' w1 x v:=by
 have hS:=hC.sig
 have hOM : ∀us T,OneMore w (w.alloc (.cells us T)) (.cells us T):= fun us T=>oneMore_alloc w _
 unfold allocO at h
 split at h
 ·rename_i t hop
  simp only [Option.map_eq_some_iff,Prod.mk.injEq] at h
  obtain ⟨cs,hcs,rfl,rfl⟩:= h
  obtain ⟨zv,hzr,rfl,_⟩:= zeroT_run hcs
  exact does_value (v:=.pointer (some ⟨w.heap.size,0,none⟩)) (by simp [execOp,hop,Instr.alloc,newVar,newRow,hzr]) ⟨zv.cells,t,rfl,rfl,fun env' hE=>⟨w.heap.size,_,t,rfl,hI.base,(hOM _ _).new,(G2.vmap _)⟩,fun env' w1 hv => .ref _ 0 _ hv⟩
 ·rename_i t y hop
  simp only [Option.map_eq_some_iff,Prod.mk.injEq] at h
  obtain ⟨cs,hcs,rfl,rfl⟩:= h
  have hg:=cellsOf_sound hcs (hρ y (by rw [hop];simp [Op.operands]))
  exact does_value (v:=.pointer (some ⟨w.heap.size,0,none⟩)) (by simp [execOp,hop,Instr.box,newVar,newRow]) ⟨(a.eval y).cells,t,rfl,rfl,fun env' hE=>⟨w.heap.size,_,t,rfl,hI.base,(hOM _ _).new,hg.ext hE hI.fresh⟩,fun env' w1 hv => .ref _ 0 _ hv⟩
 ·rename_i t len parts hop
  obtain ⟨_,h⟩:= cond_some h
  simp only [Option.map_eq_some_iff,Prod.mk.injEq] at h
  obtain ⟨sg,hsg,rfl,rfl⟩:= h
  obtain ⟨us,hrun,hrow,hlen,hbd⟩:= buildSliceA_sound (e:=a.eval) (env:=env) hS hsg (fun x hx=>hρ x (by rw [hop];simpa [Op.operands] using hx))
  have hrun':(Instr.buildSlice t len (parts.map fun x=>(x.1,a.eval x.2))).run C.P w = .ok (.slice (some ⟨w.heap.size,0,none⟩) sg.2.length sg.2.length) (w.alloc (.cells us sg.1)):= by simpa using hrun
  exact does_value (v:=.slice (some ⟨w.heap.size,0,none⟩) sg.2.length sg.2.length) (by simp [execOp,hop,hrun']) ⟨us,sg.1,rfl,rfl,fun env' hE=>⟨_,us.toList,rfl,⟨hrow.1, .inr ⟨w.heap.size,_,us,(0,0),0,rfl,hI.base,(hOM _ _).new,Nat.le_refl _,by simp only [maxLen];omega,by have:=hrow.1;simp only [Array.length_toList] at this;omega,List.take_of_length_le (by rw [List.drop_zero,hrow.1];exact Nat.le_refl _), .inl rfl⟩⟩,fun i j hi hj=>(hrow.ext hE hI.fresh).2 i j hi⟩,fun env' w1 hv => .gs _ _ _ _ hv⟩
 ·rename_i c hop;exact (hnc c hop).elim
 ·cases h
theorem closed_owns {x:AV C.S.El} (h:lt1 0 x=true): owns1 x=[]:= by
 have h0 : ∀y:AV C.S.El,lt0 0 y=true→owns y=[]:= by intro y hy;cases y <;> simp_all [lt0,owns]
 cases x <;> simp only [owns1] <;> try (first | exact h0 _ (by simpa [lt1] using h)| rfl)
 rename_i cs
 simp only [lt1] at h
 exact List.flatMap_eq_nil_iff.2 fun y hy=>h0 y ((List.all_eq_true.1 h) y hy)
theorem closed_noGs {x:AV C.S.El} (h:lt1 0 x=true): noGs1 0 x=true:=by
 have h0 : ∀y:AV C.S.El,lt0 0 y=true→noGs0 0 y=true:=by intro y hy;cases y <;> simp_all [lt0,noGs0]
 cases x <;> simp only [noGs1] <;> try (first | exact h0 _ (by simpa [lt1] using h)| rfl)
 rename_i cs
 simp only [lt1] at h
 exact List.all_eq_true.2 fun y hy=>h0 y ((List.all_eq_true.1 h) y hy)
theorem al_does (hC:CxOk C) (hI:Inv C.S B env w H) {all:List Oper} {o:Oper} {a:Act} {rho:Operand→AV C.S.El} (hρ : ∀x∈o.op.operands.toList,Γ C.S env w (rho x) (a.eval x)) {j:Nat} {ob:AObj C.S.El} {x:AV C.S.El} (h:allocO C all o rho j=some (ob,x)) (hp : ∀p∈allocP C o rho,p)
  (hk:j < H.length) (hg:obj H j = .gone) (hv:env.val j=none):
  Does C.P o a w fun v w' => ∃env':Env,(∀i,i≠j→env'.val i=env.val i)∧env'.val j≠none∧Γ C.S env' w' x v∧Inv C.S B env' w' (H.set j ob)∧Ext B H.length env w env' w':=by
 have hS:=hC.sig
 by_cases hc : ∃c,o.op = .call c
 ·obtain ⟨c,hop⟩:= hc
  unfold allocO at h
  rw [hop] at h
  simp only at h
  cases hr:rowCt C o rho with
  | none=>rw [hr] at h;cases h
  | some q =>
  obtain ⟨ps,r,news⟩:= q
  rw [hr] at h
  unfold rowO at h
  split at h
  case h_2=>cases h
  rename_i ps' t xs heq
  cases heq
  cases h
  simp only [allocP,hr] at hp
  unfold rowCt at hr
  rw [hop] at hr
  simp only at hr
  split at hr
  case h_2=>cases hr
  rename_i f args ht
  obtain ⟨hb,hr⟩:= cond_some hr
  simp only [Bool.and_eq_true] at hb
  split at hr
  case h_2=>cases hr
  rename_i ct hT
  obtain ⟨hcl,hct⟩:= cond_some hr
  have hcl0 : ∀y∈args,lt1 0 y=true:=List.all_eq_true.1 hb.2
  have hA:argsA C.P c H args=argsA C.P c [] args:=by
   have:=argsA_app (C:=C) (H:=[]) H c (args:=args) (fun y hy=>closed_noGs (hcl0 y hy))
   simpa using this
  have hct':ct (argsA C.P c H args)= some (ps,AV.gs 0,[AObj.row t xs]):= by rw [hA];exact hct
  refine (call_ct hC hI hop (fun y hy=>hρ y (by rw [hop];simpa [Op.operands] using hy)) ht hT hct' hp (by rw [hA];exact hcl)).mono fun v w' ⟨env1,h1,h2,h3,hbel⟩=> ?_
  have hnil:args.flatMap owns1=[]:= List.flatMap_eq_nil_iff.2 fun y hy=>closed_owns (hcl0 y hy)
  rw [hnil] at h2
  simp only [freezeAll,List.foldl_nil] at h2
  simp only [sh2,sh1,sh,Nat.add_zero] at h1
  have hN:=hI.fresh
  have hval:env1.val H.length=some v:=by
   cases h1 with
   | gs _ _ _ _ hq=>simpa using hq
  have hE:Ext B H.length env w ⟨fun i=>if i=j then some v else env.val i,env1.prot⟩ w' :=
   ⟨h3.below,fun i u hi hu=>by simp only;rw [if_neg (fun e=>by subst e;rw [hv] at hu;cases hu)];exact hu,h3.prot,h3.keep,h3.newp⟩
  have ho : ∀i,obj (H.set j (.row t xs)) i=if j=i then .row t xs else obj H i:=fun i=>by rw [←setN_eq];exact obj_set H j i _ hk
  have hlast:obj (H ++ [AObj.row t xs]) H.length = .row t xs:=by simp [obj_nth]
  have hlow : ∀i,i < H.length→obj (H ++ [AObj.row t xs]) i=obj H i:=fun i hi=>by simp only [obj_nth];rw [List.getElem?_append_left hi]
  have hliv : ∀i,live (obj H i)= true→i < H.length:=fun i hl=>by
   rcases Nat.lt_or_ge i H.length with h | h
   ·exact h
   ·rw [obj_nth,List.getElem?_eq_none h] at hl;simp [live] at hl
  refine ⟨⟨fun i=>if i=j then some v else env.val i,env1.prot⟩,fun i hi=>by simp [hi],by simp, ?_, ?_,hE⟩
  ·cases h1 with
   | gs _ _ _ _ hq=>exact .gs _ _ _ _ (by simp)
  ·refine ⟨fun i=>?_,fun i u b hl e1 e2 q hpp=>?_,fun i i' u u' b hl hl' e1 e2 e3 e4=>?_,h2.inheap,fun i u hu=>?_,fun g=>(hI.glob g).ext hE hN,Nat.le_trans hI.base hbel.size⟩
   ·rw [ho]
    by_cases h:j=i
    ·subst h
     simp only [if_true]
     have hok:=h2.objs H.length
     rw [hlast,hval] at hok
     obtain ⟨u,ws,q1,q2,q3⟩:= hok
     cases q1
     refine ⟨v,ws,rfl,q2,fun a b ha hb=>?_⟩
     have hgm : ∀(cs:List (AV C.S.El)) j,j < cs.length→cs.getD j .any∈cs:=fun cs j hj=>by rw [List.getD,List.getElem?_eq_getElem hj];exact List.getElem_mem _
     exact Γ.lt0 (env:=env1) (env':=⟨fun i=>if i=j then some v else env.val i,env1.prot⟩) (w:=w') (w':=w') hS (n:=0) (fun i v hi=>by omega) (fun b o hp=>⟨hp,rfl⟩) (q3 a b ha hb) (hS.flat t _ _ (hgm _ _ (by rw [hS.len];exact hb))).1
    ·simp only [if_neg h,if_neg (Ne.symm h)]
     exact (hI.objs i).ext hE hN (fun v b h1 h2 h3=>hbel.block b (live_block hI h1 h2 h3))
   ·rw [ho] at hl
    by_cases h:j=i
    ·subst h
     simp only [if_true,Option.some.injEq] at e1
     subst e1
     exact h2.free H.length v b (by rw [hlast];rfl) hval e2 q hpp
    ·simp only [if_neg h] at hl
     simp only [if_neg (Ne.symm h)] at e1
     have hi:=hliv i hl
     exact h2.free i u b (by rw [hlow i hi];exact hl) (h3.val i u hi e1) e2 q hpp
   ·rw [ho] at hl hl'
    by_cases h:j=i <;> by_cases h':j=i'
    ·omega
    ·subst h
     simp only [if_true,Option.some.injEq] at e1
     subst e1
     simp only [if_neg h'] at hl'
     simp only [if_neg (Ne.symm h')] at e2
     have hi':=hliv i' hl'
     have:=h2.apart H.length i' v u' b (by rw [hlast];rfl) (by rw [hlow i' hi'];exact hl') hval (h3.val i' u' hi' e2) e3 e4
     omega
    ·subst h'
     simp only [if_true,Option.some.injEq] at e2
     subst e2
     simp only [if_neg h] at hl
     simp only [if_neg (Ne.symm h)] at e1
     have hi:=hliv i hl
     have:=h2.apart i H.length u v b (by rw [hlow i hi];exact hl) (by rw [hlast];rfl) (h3.val i u hi e1) hval e3 e4
     omega
    ·simp only [if_neg h] at hl
     simp only [if_neg (Ne.symm h)] at e1
     simp only [if_neg h'] at hl'
     simp only [if_neg (Ne.symm h')] at e2
     exact hI.apart i i' u u' b hl hl' e1 e2 e3 e4
   ·simp only at hu
    rw [List.length_set]
    by_cases hij:i=j
    ·omega
    ·rw [if_neg hij] at hu;exact hN i u hu
 ·refine (alloc_does hC hI hρ h (fun c e=>hc ⟨c,e⟩)).mono fun v w1 ⟨us,T,hw1,hbv,hO,hGx⟩=> ?_
  subst hw1
  obtain ⟨p1,p2⟩:= put_at (T:=T) hI hk hg hv hbv hO
  exact ⟨_,fun i hi=>by simp [hi],by simp,hGx _ _ (by simp),p1,p2⟩
theorem lookupA_app {H:List (AObj C.S.El)} (N:List (AObj C.S.El)) {t:TypeId} {m k:AV C.S.El} {r} (h:lookupA C t H m k=some r): lookupA C t (H ++ N) m k=some r:=by
 have e : ∀q,mapOf H m=some q→mapOf (H ++ N) m=some q:=by
  intro q hq
  unfold mapOf at hq ⊢
  split at hq
  ·rename_i i
   split at hq
   ·rename_i hobj
    rcases obj_app H N i with he | ⟨he,_⟩
    ·simp only [he,hobj];exact hq
    ·rw [hobj] at he;cases he
   ·cases hq
  ·exact hq
  ·cases hq
 unfold lookupA at h ⊢
 cases hm:mapOf H m with
 | none=>rw [hm] at h;cases h
 | some q=>rw [hm] at h;rw [e q hm];exact h
theorem evD_blind {o:Oper} {rho:Operand→AV C.S.El} (hb:blind o=true) (H H':List (AObj C.S.El)): evD C o rho H=evD C o rho H':=by
 unfold blind at hb
 split at hb
 all_goals first
  | (cases hb;done)
  | (rename_i hop;unfold evD evP;rw [hop])
theorem evD_seen {Tg:List Nat} {all:List Oper} {Lt:List Nat} {i:Nat} {o:Oper} {rho:Operand→AV C.S.El} {H H':List (AObj C.S.El)} (N:List (AObj C.S.El)) (hs:syncd all Lt i=true→H'=H) (ho : ∀j,Tg.contains j=false→obj H' j=obj H j) (hl:H'.length=H.length) (hn:noNew C (seen Tg all Lt i o rho H).length o rho=true) {r} (h:evD C o rho (seen Tg all Lt i o rho H)= some r): evD C o rho (H' ++ N)= some r:=by
 unfold seen at hn h
 cases hb:blind o with
 | true =>
  rw [hb] at h
  rw [evD_blind hb _ H];exact h
 | false =>
  rw [hb,Bool.false_or] at hn h
  cases hy:syncd all Lt i with
  | true =>
   rw [hy] at hn h
   rw [hs hy]
   exact evD_app N hn h
  | false =>
   rw [hy,Bool.false_or] at hn h
   cases hq:safeLoad Tg o rho with
   | false =>
    rw [hq] at hn h
    exact evD_app (H:=[]) (H' ++ N) hn h
   | true =>
    rw [hq,cond_true] at hn h
    rw [←hl] at hn
    refine evD_app N hn ?_
    rw [←h]
    unfold safeLoad at hq
    split at hq
    ·rename_i t a hop
     split at hq
     ·rename_i j off hra
      have e:=ho j (by simpa using hq)
      unfold evD evP
      simp only [hop,hra,loadA,e]
     ·cases hq
    ·cases hq
theorem lookupA_seen {Tg:List Nat} {all:List Oper} {Lt:List Nat} {i:Nat} {o:Oper} {rho:Operand→AV C.S.El} {H H':List (AObj C.S.El)} (N:List (AObj C.S.El)) (hs:syncd all Lt i=true→H'=H) (hb:blind o=false) (hq:safeLoad Tg o rho=false) {t:TypeId} {m k:AV C.S.El} {r} (h:lookupA C t (seen Tg all Lt i o rho H) m k=some r): lookupA C t (H' ++ N) m k=some r:=by
 unfold seen at h
 rw [hb,Bool.false_or,hq,Bool.or_false] at h
 cases hy:syncd all Lt i with
 | true =>
  rw [hy] at h
  rw [hs hy]
  exact lookupA_app N h
 | false =>
  rw [hy] at h
  exact lookupA_app (H:=[]) (H' ++ N) h
theorem step_sound (hC:CxOk C) {Tg:List Nat} {all:List Oper} {Lt:List Nat} {i:Nat} {st:St C.S.El} {N0:List (AObj C.S.El)} {D0:List Nat} {o:Oper} {x:AV C.S.El} (hst:StepOk C Tg all Lt i st N0 D0 o x .no) {a:Act} {H' N:List (AObj C.S.El)} (hs:syncd all Lt i=true→H'=st.objs) (ho : ∀j,Tg.contains j=false→obj H' j=obj st.objs j) (hl:H'.length=st.objs.length) (hI:Inv C.S B env w (H' ++ N))
  (hops : ∀y∈o.op.operands.toList,Γ C.S env w (look C st.slots y) (a.eval y)) (hgd : ∀j want,o.guard=some (j,want)→∀d,(all[j]?).bind (·.dst)= some d→Γ C.S env w (lk st.slots d) (a.tmps.getD d undef))
  {next:Act→World→Prop} {Q:Exit→Act→World→Prop} (hnext : ∀v env' w',env'.val=env.val→Γ C.S env' w' x v→Inv C.S B env' w' (H' ++ N)→Ext B (H' ++ N).length env w env' w'→next (a.put o.dst v) w'):
  if Region.wanted o (yielded all.toArray a.tmps) then o.wp C.P a w next Q else next (a.put o.dst undef) w:=by
 rcases hst with ⟨hg,hno,ps,hev,hp⟩| ⟨j,want,g,ps,y,hg,hgb,hno,hev,rfl,hp⟩| ⟨t,m,k,ok,n,ks,vs,hg,hop,hlk,hx,hp⟩
 ·rw [if_pos (by simp [Region.wanted,hg])]
  have hρ:=rhoOf_sound' hops (g:=none) (.inl rfl) (fun p hpp=>hp p (List.mem_append.2 (.inl hpp)))
  exact (evD_sound hC hI hρ (evD_seen N hs ho hl hno hev) (fun p hpp=>hp p (List.mem_append.2 (.inr hpp)))).wp fun v w' ⟨env',h0,h1,h2,h3⟩=> hnext v env' w' h0 h1 h2 h3
 ·have hwant:Region.wanted o (yielded all.toArray a.tmps)= g:=by
   simp only [Region.wanted,hg]
   exact guardB_sound' (hgd j want hg) hgb
  rw [hwant]
  cases g
  ·simp only [Bool.false_eq_true,if_false]
   exact hnext undef env w rfl (.gd _ _ _ (by simp) (fun _=>rfl)) hI (Ext.refl _ _ _ _)
  ·simp only [if_true]
   have hp':=if0_mem (p:=True) _ hp rfl
   have hρ:=rhoOf_sound' hops (g:=some true) (.inr rfl) (fun p hpp=>hp' p (List.mem_append.2 (.inl (List.mem_append.2 (.inl hpp)))))
   refine (evD_sound hC hI hρ (evD_seen N hs ho hl hno hev) (fun p hpp=>hp' p (List.mem_append.2 (.inr hpp)))).wp fun v w' ⟨env',h0,h1,h2,h3⟩=> ?_
   have hb:=gd_value h1 (fun p hpp=>hp' p (List.mem_append.2 (.inl (List.mem_append.2 (.inr hpp)))))
   exact hnext v env' w' h0 (.gd true _ v (fun _=>hb) (by simp)) h2 h3
 ·rw [if_pos (by simp [Region.wanted,hg])]
  have hρ:=rhoOf_sound' hops (g:=none) (.inl rfl) hp
  obtain ⟨r,rfl,hrun⟩:= lookup_run (ok:=ok) hI (lookupA_seen N hs (by unfold blind;rw [hop]) (by unfold safeLoad;rw [hop]) hlk) (lkMap_self ks vs) (hρ m (by rw [hop];simp [Op.operands])) (hρ k (by rw [hop];simp [Op.operands]))
  obtain ⟨v,hv,hgv⟩:= hrun x hx
  have hd:Does C.P o a w (PureR C B env w (H' ++ N) x):= does_value (v:=v) (by simp [execOp,hop,hv]) (.same hI hgv)
  exact hd.wp fun v w' ⟨env',h0,h1,h2,h3⟩=> hnext v env' w' h0 h1 h2 h3
def unl (n:Nat) (L:Array Bool): Nat:=((List.range n).filter fun i => !L.getD i false).length
theorem filter_one {l:List Nat} (hn:l.Nodup) {i:Nat} (hi:i∈l) {p q:Nat→Bool} (hp:p i=true) (hq:q i=false) (h : ∀j,j≠i→q j=p j): (l.filter q).length+1=(l.filter p).length:=by
 induction l with
 | nil=>cases hi
 | cons a l ih =>
  rw [List.nodup_cons] at hn
  by_cases ha:a=i
  ·subst ha
   have:l.filter q=l.filter p:=List.filter_congr fun j hj=>h j (fun e=>hn.1 (e ▸ hj))
   simp [hp,hq,this]
  ·have hi':i∈l:=by
    rcases List.mem_cons.1 hi with h | h
    ·exact absurd h.symm ha
    ·exact h
   have:=ih hn.2 hi'
   have hqa:=h a ha
   cases hpa:p a
   ·rw [hpa] at hqa;simp [hpa,hqa,this]
   ·rw [hpa] at hqa;simp [hpa,hqa];omega
theorem getD_set (L:Array Bool) (i j:Nat) (hi:i < L.size): (L.setIfInBounds i true).getD j false=if i=j then true else L.getD j false:=by
 simp only [Array.getD_eq_getD_getElem?,Array.getElem?_setIfInBounds]
 by_cases h:i=j
 ·subst h;simp [hi]
 ·simp [h]
theorem unl_set {n:Nat} {L:Array Bool} (hs:L.size=n) {i:Nat} (hi:i < n) (hL:L.getD i false=false): unl n (L.setIfInBounds i true)+ 1=unl n L :=
 filter_one List.nodup_range (List.mem_range.2 hi) (by simp [hL]) (by rw [getD_set _ _ _ (by omega)];simp) (fun j hj=>by rw [getD_set _ _ _ (by omega),if_neg (fun e=>hj e.symm)])
theorem unl_zero {n:Nat} {L:Array Bool} (h:unl n L=0) {i:Nat} (hi:i < n): L.getD i false=true:=by
 unfold unl at h
 have:=List.eq_nil_of_length_eq_zero h
 cases hL:L.getD i false
 ·have hm:i∈(List.range n).filter fun i => !L.getD i false:=List.mem_filter.2 ⟨List.mem_range.2 hi,by simp [hL]⟩
  rw [this] at hm;cases hm
 ·rfl
theorem ready_iff {all:List Oper} {L:Array Bool} (hs:L.size=all.length) {i:Nat}: i∈Region.ready .any all.toArray L ↔ ∃o,all[i]? = some o∧L.getD i false=false∧∀e∈o.after.toList,Region.binds .any e=true→L.getD e.on false=true:=by
 rw [mem_ready]
 simp only [List.getElem?_toArray]
 constructor
 ·rintro ⟨h1,o,h2,h3⟩
  have hi:i < L.size:=by rw [hs];exact (List.getElem?_eq_some_iff.1 h2).1
  refine ⟨o,h2, ?_,fun e he hb=>h3 e (by simpa using he) hb⟩
  simp only [Array.getD_eq_getD_getElem?,Array.getElem?_eq_getElem hi] at h1 ⊢
  exact h1
 ·rintro ⟨o,h2,h1,h3⟩
  have hi:i < L.size:=by rw [hs];exact (List.getElem?_eq_some_iff.1 h2).1
  refine ⟨?_,o,h2,fun e he hb=>h3 e (by simpa using he) hb⟩
  simp only [Array.getD_eq_getD_getElem?,Array.getElem?_eq_getElem hi] at h1 ⊢
  exact h1
def ClosedL (all:List Oper) (L:Array Bool): Prop:=∀i o,all[i]? = some o→L.getD i false=true→∀e∈o.after.toList,Region.binds .any e=true→L.getD e.on false=true
theorem wpOp_of {P:Program} {all:List Oper} {Q:Exit→Act→World→Prop} {i:Nat} {o:Oper} (ho:all[i]? = some o) {K:Act→World→Prop} {a:Act} {w:World}
  (h:if Region.wanted o (yielded all.toArray a.tmps) then o.wp P a w K Q else K (a.put o.dst undef) w): wpOp P all.toArray Q i K a w:=by
 unfold wpOp
 simp only [List.getElem?_toArray,ho]
 split
 ·rename_i hw;rw [if_pos hw] at h;exact .inl h
 ·rename_i hw;rw [if_neg hw] at h;exact h
section region
variable {inl:Inl C.S.El} {all:List Oper} {st:St C.S.El} {vs:List (Option Nat×AV C.S.El)} {ns:List (Nw C.S.El)} {K:St C.S.El→Prop} {Q:Exit→Act→World→Prop}
theorem tail_sound (hC:CxOk C) (hinl:InlOk C inl) (hplainF : ∀f args H K,inl f args H K→Plain C.P f)
  (hed : ∀i o,all[i]? = some o→∀e∈o.after.toList,Region.binds .any e=true→e.on < i) (htl : ∀j,vs.length≤j→j < all.length→∀i,i < j→ahead (bitsBefore all) i j=true)
  (hQ : ∀st' env' a' w',K st'→Rel C B env' st' a' w'→st'.lo=st.lo→Ext B st.lo env w env' w'→Q .normal a' w'):
  ∀(fuel k:Nat) (L:Array Bool) (env':Env) (a:Act) (w':World) (st':St C.S.El),L.size=all.length→(∀i,i < all.length→L.getD i false=decide (i < k))→k≤all.length→vs.length≤k→evOps C inl all (all.drop k) st' K→Rel C B env' st' a w'→st'.lo=st.lo→
   Ext B st.lo env w env' w'→unl all.length L=fuel→wpAny C.P .any all.toArray Q fuel L a w':=by
 intro fuel
 induction fuel with
 | zero =>
  intro k L env' a w' st' hs hL hk hm hev hr hlo hE hu
  have hkn:k=all.length:=by
   rcases Nat.lt_or_ge k all.length with h | h
   ·have:=unl_zero hu h;rw [hL k h] at this;simp at this
   ·omega
  subst hkn
  rw [List.drop_length] at hev
  refine ⟨?_,hQ st' env' a w' hev hr hlo hE⟩
  refine List.eq_nil_iff_forall_not_mem.2 fun i hi=>?_
  obtain ⟨o,ho,h1,_⟩:= (ready_iff hs).1 hi
  have:=(List.getElem?_eq_some_iff.1 ho).1
  rw [unl_zero hu this] at h1;cases h1
 | succ fuel ih =>
  intro k L env' a w' st' hs hL hk hm hev hr hlo hE hu
  have hkn:k < all.length:=by
   rcases Nat.lt_or_ge k all.length with h | h
   ·exact h
   ·exfalso
    have hz:unl all.length L=0:=by
     unfold unl
     rw [List.length_eq_zero_iff,List.filter_eq_nil_iff]
     intro i hi
     rw [List.mem_range] at hi
     rw [hL i hi];simp;omega
    omega
  have hcl : ∀i o,all[i]? = some o→L.getD i false=true→∀e∈o.after.toList,Region.binds .any e=true→L.getD e.on false=true:=by
   intro i o ho hi e he hb
   have h1:=hed i o ho e he hb
   have h2:=(List.getElem?_eq_some_iff.1 ho).1
   rw [hL i h2] at hi
   rw [hL e.on (by omega)]
   simp at hi ⊢;omega
  have hok:all[k]? = some all[k]:= List.getElem?_eq_getElem hkn
  have hkr:k∈Region.ready .any all.toArray L:=(ready_iff hs).2 ⟨_,hok,by rw [hL k hkn];simp,fun e he hb=>by
   have:=hed k _ hok e he hb
   rw [hL e.on (by omega)];simpa using this⟩
  refine ⟨(fun h=>by rw [h] at hkr;cases hkr),fun i hi=>?_⟩
  obtain ⟨o,ho,h1,h2⟩:= (ready_iff hs).1 hi
  have hin:=(List.getElem?_eq_some_iff.1 ho).1
  have hik:i=k:=by
   rw [hL i hin] at h1
   simp only [decide_eq_false_iff_not,Nat.not_lt] at h1
   rcases Nat.eq_or_lt_of_le h1 with h | h
   ·exact h.symm
   ·exfalso
    have:=ahead_closed (L:=fun i=>L.getD i false) hed hcl i o ho h2 k (htl i (by omega) hin k h)
    rw [hL k hkn] at this;simp at this
  subst hik
  have hdrop:all.drop i=o::all.drop (i+1):= by
   rw [List.drop_eq_getElem_cons hkn]
   congr 1
   have:=List.getElem?_eq_getElem hkn
   rw [ho] at this
   exact (Option.some.inj this).symm
  rw [hdrop] at hev
  refine wpOp_of ho (evOps_head hC hinl hplainF hev hr fun st1 env1 a1 w1 k1 k2 k3 k4=>?_)
  refine ih (i+1) _ env1 a1 w1 st1 (by simpa using hs) (fun j hj=>?_) (by omega) (by omega) k1 k2 (k3.trans hlo) (hE.trans (by rw [hlo] at k4;exact k4)) (by have:=unl_set hs hin (by rw [hL i hin];simp);omega)
  rw [getD_set _ _ _ (by omega),hL j hj]
  by_cases h:i=j
  ·subst h;simp
  ·rw [if_neg h]
   have:(j < i) ↔ (j < i+1):= by omega
   simp [this]
theorem pre_sound (hC:CxOk C) (hinl:InlOk C inl) (hplainF : ∀f args H K,inl f args H K→Plain C.P f)
  (hed : ∀i o,all[i]? = some o→∀e∈o.after.toList,Region.binds .any e=true→e.on < i) (htl : ∀j,vs.length≤j→j < all.length→∀i,i < j→ahead (bitsBefore all) i j=true)
  (hap : ∀i j oi oj,i < j→all[i]? = some oi→all[j]? = some oj→ahead (bitsBefore all) i j=true∨((∀d,oi.dst=some d→d∉names all oj)∧∀d,oj.dst=some d→d∉names all oi))
  {Tg Lt:List Nat} (hlex:LexOk C Tg all Lt 0 all vs ns [] [] st) (hnl:ns.length=vs.length) (hmle:vs.length≤all.length) (hrest:evOps C inl all (all.drop vs.length) {st with slots:=slotsOf st.slots (fun _=>true) vs 0,objs:=lateAt (fun _=>true) ns 0 st.objs ++ objsAt (fun _=>true) ns} K) (hlo:st.lo≤st.objs.length) (hfr : ∀i v,env.val i=some v→i < st.objs.length)
  (hQ : ∀st' env' a' w',K st'→Rel C B env' st' a' w'→st'.lo=st.lo→Ext B st.lo env w env' w'→Q .normal a' w'):
  ∀(fuel:Nat) (L:Array Bool) (env':Env) (a:Act) (w':World),L.size=all.length→ClosedL all L→(∀i,vs.length≤i→L.getD i false=false)→a.tmps.size=st.n→a.defers=[]→
   (∀t,Γ C.S env' w' (lk (slotsOf st.slots (fun i=>L.getD i false) vs 0) t) (a.tmps.getD t undef))→Inv C.S B env' w' (lateAt (fun i=>L.getD i false) ns 0 st.objs ++ objsAt (fun i=>L.getD i false) ns)→
   (∀k cs,ns[k]? = some (.al cs)→L.getD k false=false→env'.val (st.objs.length+cnt (ns.take k))= none)→(∀j k cs,ns[j]? = some (.pt k cs)→L.getD j false=true→env'.val (st.objs.length+k)≠none)→(∀j a k ob,ns[j]? = some (.lt (.ap a k ob))→L.getD j false=false→env'.val k=none)→Ext B st.objs.length env w env' w'→unl all.length L=fuel→wpAny C.P .any all.toArray Q fuel L a w':=by
 intro fuel
 induction fuel with
 | zero =>
  intro L env' a w' hs hcl hge hsz hdf hsl hI hgn hpn hln hE hu
  have hall : ∀i,i < vs.length→L.getD i false=true:=fun i hi=>unl_zero hu (by omega)
  have hmn:vs.length=all.length:=by
   rcases Nat.lt_or_ge vs.length all.length with h | h
   ·have:=unl_zero hu h;rw [hge _ (Nat.le_refl _)] at this;cases this
   ·omega
  refine tail_sound (env:=env) (w:=w) (st:=st) hC hinl hplainF hed htl hQ 0 vs.length L env' a w' _ hs (fun i hi=>?_) hmle (Nat.le_refl _) hrest ⟨hsz,hdf,fun t=>?_,by rw [objsAt_congr (p:=fun _=>true) (q:=fun i=>L.getD i false) ns (fun k hk=>(hall k (by omega)).symm),lateAt_congr (p:=fun _=>true) (q:=fun i=>L.getD i false) ns 0 _ (fun k u hk=>by have:=(List.getElem?_eq_some_iff.1 hk).1;rw [Nat.zero_add];exact (hall k (by omega)).symm)];exact hI,by simp only [List.length_append,lateAt_len];omega⟩ rfl (hE.mono hlo) hu
  ·rw [hall i (by omega)];simp;omega
  ·have:=hsl t
   rwa [slotsOf_congr vs 0 st.slots st.slots _ (fun _=>true) rfl (fun k x hk=>by rw [Nat.zero_add];exact hall k (List.getElem?_eq_some_iff.1 hk).1)] at this
 | succ fuel ih =>
  intro L env' a w' hs hcl hge hsz hdf hsl hI hgn hpn hln hE hu
  by_cases hall : ∀i,i < vs.length→L.getD i false=true
  ·refine tail_sound (env:=env) (w:=w) (st:=st) hC hinl hplainF hed htl hQ _ vs.length L env' a w' _ hs (fun i hi=>?_) hmle (Nat.le_refl _) hrest ⟨hsz,hdf,fun t=>?_,by rw [objsAt_congr (p:=fun _=>true) (q:=fun i=>L.getD i false) ns (fun k hk=>(hall k (by omega)).symm),lateAt_congr (p:=fun _=>true) (q:=fun i=>L.getD i false) ns 0 _ (fun k u hk=>by have:=(List.getElem?_eq_some_iff.1 hk).1;rw [Nat.zero_add];exact (hall k (by omega)).symm)];exact hI,by simp only [List.length_append,lateAt_len];omega⟩ rfl (hE.mono hlo) hu
   ·by_cases h:i < vs.length
    ·rw [hall i h];simp [h]
    ·rw [hge i (by omega)];simp [h]
   ·have:=hsl t
    rwa [slotsOf_congr vs 0 st.slots st.slots _ (fun _=>true) rfl (fun k x hk=>by rw [Nat.zero_add];exact hall k (List.getElem?_eq_some_iff.1 hk).1)] at this
  ·obtain ⟨i0,⟨hi0,hL0⟩,hmin⟩:= exists_least (p:=fun i=>i < vs.length∧L.getD i false=false) (by
    refine Classical.byContradiction fun hno=>hall fun i hi=>?_
    cases hL:L.getD i false
    ·exact absurd ⟨i,hi,hL⟩ hno
    ·rfl)
   have hi0n:i0 < all.length:=by omega
   have hr0:i0∈Region.ready .any all.toArray L:=(ready_iff hs).2 ⟨_,List.getElem?_eq_getElem hi0n,hL0,fun e he hb=>by
    have:=hed i0 _ (List.getElem?_eq_getElem hi0n) e he hb
    cases hL:L.getD e.on false
    ·have:=hmin e.on ⟨by omega,hL⟩;omega
    ·rfl⟩
   refine ⟨(fun h=>by rw [h] at hr0;cases hr0),fun i hi=>?_⟩
   obtain ⟨o,ho,h1,h2⟩:= (ready_iff hs).1 hi
   have hin:=(List.getElem?_eq_some_iff.1 ho).1
   have hah : ∀j,ahead (bitsBefore all) j i=true→L.getD j false=true:=ahead_closed (L:=fun i=>L.getD i false) hed hcl i o ho h2
   have him:i < vs.length:=by
    rcases Nat.lt_or_ge i vs.length with h | h
    ·exact h
    ·have:=hah i0 (htl i h hin i0 (by omega));rw [hL0] at this;cases this
   obtain ⟨d,x,hvi⟩: ∃d x,vs[i]? = some (d,x):= ⟨vs[i].1,vs[i].2,by rw [List.getElem?_eq_getElem him]⟩
   obtain ⟨o',nw,ho',hnw,hd,hb,hstep⟩:= hlex.get 0 all vs ns [] [] st i d x hvi
   rw [Nat.zero_add] at hstep
   rw [ho] at ho'
   cases ho'
   have hdst : ∀(k:Nat) (t:Nat) (y:AV C.S.El),vs[k]? = some (some t,y)→∃ok:Oper,all[k]? = some ok∧ok.dst=some t:=fun k t y hk=>by
    obtain ⟨ok,_,q1,_,q2,_⟩:= hlex.get 0 all vs ns [] [] st k (some t) y hk
    exact ⟨ok,q1,q2.symm⟩
   have hlater : ∀(k:Nat) (ok:Oper),i < k→all[k]? = some ok→ahead (bitsBefore all) i k=true→L.getD k false=false:=fun k ok hk hok ha=>by
    cases hLk:L.getD k false
    ·rfl
    ·have:=ahead_closed (L:=fun i=>L.getD i false) hed hcl k ok hok (hcl k ok hok hLk) i ha
     rw [h1] at this;cases this
   have hslot : ∀t,t∈looks all o→Γ C.S env' w' (lk (slotsOf st.slots (fun _=>true) (vs.take i) 0) t) (a.tmps.getD t undef):= by
    intro t ht
    have htn:t∈names all o:=by unfold names;exact List.mem_append.2 (.inr ht)
    rw [slotsOf_take,←slotsOf_congr vs 0 st.slots st.slots (fun i=>L.getD i false) _ rfl (fun k y hk=>?_)]
    ·exact hsl t
    ·rw [Nat.zero_add]
     obtain ⟨ok,hok,hokd⟩:= hdst k t y hk
     rcases Nat.lt_trichotomy k i with hki | hki | hki
     ·rcases hap k i ok o hki hok ho with h | h
      ·rw [hah k h];simp [hki]
      ·exact absurd htn (h.1 t hokd)
     ·subst hki;rw [h1];simp
     ·rcases hap i k o ok hki ho hok with h | h
      ·rw [hlater k ok hki hok h];simp;omega
      ·exact absurd htn (h.2 t hokd)
   have hops : ∀y∈o.op.operands.toList,Γ C.S env' w' (look C (slotsOf st.slots (fun _=>true) (vs.take i) 0) y) (a.eval y):= fun y hy=>by
    cases y with
    | tmp t=>exact hslot t (List.mem_append.2 (.inl (List.mem_flatMap.2 ⟨_,hy,by simp⟩)))
    | const u=>exact .v u
    | global g=>exact hI.glob g
    | func f =>
     show Γ C.S _ _ (bif Nat.blt f mvK then .clo f [] else .any) (.func (.func f) #[] #[])
     cases hb:Nat.blt f mvK
     ·exact .any _
     ·rw [←closV_lt #[] hb]
      exact .clo f [] #[] rfl (fun j=>by simpa using Γ.any (S:=C.S) _)
   have hiL:i < L.size:=by omega
   have hset : ∀m,(fun k=>(L.setIfInBounds i true).getD k false) m=if m=0+i then true else (fun k=>L.getD k false) m:=fun m=>by
    simp only [Nat.zero_add]
    rw [getD_set _ _ _ hiL]
    by_cases h:i=m
    ·rw [if_pos h,if_pos h.symm]
    ·rw [if_neg h,if_neg (Ne.symm h)]
   have hcont : ∀v env1 w1,Γ C.S env1 w1 x v→Inv C.S B env1 w1 (lateAt (fun k=>(L.setIfInBounds i true).getD k false) ns 0 st.objs ++ objsAt (fun k=>(L.setIfInBounds i true).getD k false) ns)→
     (∀k cs,ns[k]? = some (.al cs)→(L.setIfInBounds i true).getD k false=false→env1.val (st.objs.length+cnt (ns.take k))= none)→(∀j k cs,ns[j]? = some (.pt k cs)→(L.setIfInBounds i true).getD j false=true→env1.val (st.objs.length+k)≠none)→(∀j a k ob,ns[j]? = some (.lt (.ap a k ob))→(L.setIfInBounds i true).getD j false=false→env1.val k=none)→Ext B (lateAt (fun k=>L.getD k false) ns 0 st.objs ++ objsAt (fun k=>L.getD k false) ns).length env' w' env1 w1→
     wpAny C.P .any all.toArray Q fuel (L.setIfInBounds i true) (a.put o.dst v) w1:=by
    intro v env1 w1 q1 q2 qg qp ql q3
    refine ih _ env1 _ w1 (by simpa using hs) (fun k ok hok hk e he hb'=>?_) (fun k hk=>?_) (by cases hod:o.dst <;> simp [Act.put,hsz]) (by cases hod:o.dst <;> simp [Act.put,hdf]) (fun t=>?_) q2 qg qp ql (hE.trans (q3.mono (by simp [lateAt_len]))) (by have:=unl_set hs hin h1;omega)
    ·rw [getD_set _ _ _ (by omega)] at hk ⊢
     by_cases hik:i=k
     ·subst hik
      rw [ho] at hok;cases hok
      split
      ·rfl
      ·exact h2 e he hb'
     ·rw [if_neg hik] at hk
      split
      ·rfl
      ·exact hcl k ok hok hk e he hb'
    ·rw [getD_set _ _ _ (by omega),if_neg (by omega)];exact hge k hk
    ·by_cases hdt:o.dst=some t
     ·have e1:lk (slotsOf st.slots (fun k=>(L.setIfInBounds i true).getD k false) vs 0) t=x:=by
       refine slotsOf_last vs 0 st.slots _ i (by rw [hvi,hd,hdt]) (by rw [Nat.zero_add,getD_set _ _ _ (by omega),if_pos rfl]) (fun k y hk hky=>?_)
       rw [Nat.zero_add,getD_set _ _ _ (by omega),if_neg (by omega)]
       obtain ⟨ok,hok,hokd⟩:= hdst k t y hky
       rcases hap i k o ok hk ho hok with h | h
       ·exact hlater k ok hk hok h
       ·exact absurd (show t∈names all ok by unfold names;rw [hokd];simp) (h.1 t hdt)
      rw [e1,hdt]
      have ht:t < a.tmps.size:=by rw [hsz];exact hb t (hd.trans hdt)
      have:(a.put (some t) v).tmps.getD t undef=v:=by simp [Act.put,Array.getD_eq_getD_getElem?,Array.getElem?_setIfInBounds,ht]
      rw [this];exact q1
     ·have e1:lk (slotsOf st.slots (fun k=>(L.setIfInBounds i true).getD k false) vs 0) t=lk (slotsOf st.slots (fun k=>L.getD k false) vs 0) t:=by
       refine slotsOf_congr vs 0 st.slots st.slots _ _ rfl (fun k y hk=>?_)
       rw [Nat.zero_add,getD_set _ _ _ (by omega)]
       by_cases hik:i=k
       ·subst hik
        obtain ⟨ok,hok,hokd⟩:= hdst i t y hk
        rw [ho] at hok;cases hok
        exact absurd hokd hdt
       ·rw [if_neg hik]
      rw [e1]
      have e2:(a.put o.dst v).tmps.getD t undef=a.tmps.getD t undef:=by
       cases hod:o.dst with
       | none=>rfl
       | some dd =>
        have hne:dd≠t:=fun e=>hdt (by rw [hod,e])
        simp [Act.put,Array.getD_eq_getD_getElem?,Array.getElem?_setIfInBounds,hne]
      rw [e2]
      exact (hsl t).ext q3 hI.fresh
   have hbl:(lateAt (fun k=>L.getD k false) ns 0 st.objs).length=st.objs.length:=lateAt_len _ _ _ _
   have hlate:syncd all Lt i=true→∀(j:Nat) (u:LtK C.S.El),ns[j]? = some (Nw.lt u)→L.getD j false=decide (j < i):= by
    intro hy j u hj
    have hjl:j < vs.length:=by rw [←hnl];exact (List.getElem?_eq_some_iff.1 hj).1
    obtain ⟨oj,nwj,hoj,hnj,_,_,hsj⟩:= hlex.get 0 all vs ns [] [] st j vs[j].1 vs[j].2 (by rw [List.getElem?_eq_getElem hjl])
    rw [hj] at hnj
    cases hnj
    have hjL:Lt.contains j=true:=by
     rcases hsj.2 with ⟨_,_,_,_,h,_⟩| ⟨_,_,_,_,_,h,_⟩
     ·obtain ⟨_,_,_,_,_,_,_,_,hjL,_⟩:= lateA_some h
      rw [Nat.zero_add] at hjL;exact List.contains_iff_mem.2 hjL
     ·have hjL:=(apK_com h).1
      rw [Nat.zero_add] at hjL;exact hjL
    have hjL:=List.contains_iff_mem.1 hjL
    have hor:=(List.all_eq_true.1 hy) j hjL
    rw [Bool.or_eq_true] at hor
    rcases Nat.lt_trichotomy j i with h | h | h
    ·have:ahead (bitsBefore all) j i=true:=by
      rcases hor with h0 | h0
      ·exact absurd (Nat.eq_of_beq_eq_true h0) (by omega)
      ·rw [show Nat.blt j i=true by simp only [Nat.blt,Nat.ble_eq];omega,cond_true] at h0;exact h0
     rw [hah j this];simp [h]
    ·subst h;rw [h1];simp
    ·have:ahead (bitsBefore all) i j=true:=by
      rcases hor with h0 | h0
      ·exact absurd (Nat.eq_of_beq_eq_true h0) (by omega)
      ·rw [show Nat.blt j i=false by simp only [Nat.blt];cases hq:Nat.ble (j+1) i;rfl;exact absurd (Nat.le_of_ble_eq_true hq) (by omega),cond_false] at h0;exact h0
     rw [hlater j oj h hoj this]
     have : ¬(j < i):= by omega
     simp [this]
   have hsync:syncd all Lt i=true→lateAt (fun k=>L.getD k false) ns 0 st.objs=(ns.take i).foldl stepH st.objs:=by
    intro hy
    rw [←lateAt_take ns 0 i]
    refine lateAt_congr ns 0 _ fun j u hj=>?_
    rw [Nat.zero_add,Nat.zero_add]
    exact hlate hy j u hj
   have hltg : ∀(k:Nat) (u:LtK C.S.El),ns[k]? = some (Nw.lt u)→∀jj∈touch u,Tg.contains jj=true:=by
    intro k u hj
    have hjl:k < vs.length:=by rw [←hnl];exact (List.getElem?_eq_some_iff.1 hj).1
    obtain ⟨oj,nwj,hoj,hnj,_,_,hsj⟩:= hlex.get 0 all vs ns [] [] st k vs[k].1 vs[k].2 (by rw [List.getElem?_eq_getElem hjl])
    rw [hj] at hnj
    cases hnj
    intro jj hjj
    rcases hsj.2 with ⟨_,_,_,rfl,h,_⟩| ⟨_,_,_,_,rfl,h,_⟩
    ·simp only [touch,List.mem_singleton] at hjj
     subst hjj
     exact lateA_tg h
    ·obtain ⟨_,g1,g2,_⟩:= apK_com h
     simp only [touch,List.mem_cons,List.not_mem_nil,or_false] at hjj
     rcases hjj with rfl | rfl
     ·exact g1
     ·exact g2
   have hother : ∀j,Tg.contains j=false→obj (lateAt (fun k=>L.getD k false) ns 0 st.objs) j=obj ((ns.take i).foldl stepH st.objs) j:=by
    intro j hj
    have hne : ∀(k:Nat) (u:LtK C.S.El),ns[k]? = some (Nw.lt u)→j∉touch u:=fun k u hk e=>by
     rw [hltg k u hk j e] at hj
     cases hj
    rw [lateAt_other _ _ _ hne,←lateAt_take ns 0 i,lateAt_other _ _ _ hne]
   have hkeep:(∀(u:LtK C.S.El),nw≠Nw.lt u)→lateAt (fun k=>(L.setIfInBounds i true).getD k false) ns 0 st.objs=lateAt (fun k=>L.getD k false) ns 0 st.objs:=by
    intro hne
    refine lateAt_congr ns 0 _ fun j u hj=>?_
    simp only [Nat.zero_add]
    rw [getD_set _ _ _ hiL,if_neg]
    intro e
    subst e
    rw [hnw] at hj
    exact hne _ (Option.some.inj hj)
   have hapk : ∀j a k ob,ns[j]? = some (.lt (.ap a k ob))→k+1=st.objs.length∧j < all.length∧isApp C (nth all j)= true:=by
    intro j a k ob hj
    have hjl:j < vs.length:=by rw [←hnl];exact (List.getElem?_eq_some_iff.1 hj).1
    obtain ⟨oj,nwj,hoj,hnj,_,_,hsj⟩:= hlex.get 0 all vs ns [] [] st j vs[j].1 vs[j].2 (by rw [List.getElem?_eq_getElem hjl])
    rw [hj] at hnj
    cases hnj
    rcases hsj.2 with ⟨_,_,_,h,_⟩| ⟨_,_,_,_,e,h,_⟩
    ·cases h
    ·cases e
     obtain ⟨_,_,_,hk,_,hat⟩:= apK_com h
     refine ⟨by simpa [foldH_len] using hk,by omega, ?_⟩
     unfold isApp
     rw [nth_eq,hoj]
     exact hat
   have hlnk : ∀(env1:Env),(∀k,k+1=st.objs.length→env1.val k=env'.val k)→∀j a k ob,ns[j]? = some (.lt (.ap a k ob))→(L.setIfInBounds i true).getD j false=false→env1.val k=none:=by
    intro env1 he j a k ob hj hL
    rw [he k (hapk j a k ob hj).1]
    refine hln j a k ob hj ?_
    rw [getD_set _ _ _ hiL] at hL
    by_cases h:i=j
    ·rw [if_pos h] at hL;cases hL
    ·rw [if_neg h] at hL;exact hL
   have hfree : ∀k,env'.val (st.objs.length+k)= none→Free (fun i=>L.getD i false) ns 0 k:=fun k hk j k' cs hj hp e=>by
    subst e
    rw [Nat.zero_add] at hp
    exact hpn j k' cs hj hp hk
   cases nw with
   | no =>
    refine wpOp_of ho (step_sound (st:={st with slots:=slotsOf st.slots (fun _=>true) (vs.take i) 0,objs:=(ns.take i).foldl stepH st.objs}) hC hstep hsync hother (by rw [hbl,←lateAt_take ns 0 i,lateAt_len]) hI hops (fun j want hg dd hdd=>?_) fun v env1 w1 q0 q1 q2 q3=>?_)
    ·refine hslot dd (List.mem_append.2 (.inr ?_))
     rw [hg]
     simp only [nth_eq,hdd]
     simp
    ·refine hcont v env1 w1 q1 ?_ (fun k cs hk hL=>?_) (fun j k cs hk hL=>?_) (hlnk env1 fun k _=>by rw [q0]) q3
     ·rw [objsAt_same hnw rfl rfl hset,hkeep (fun _ h=>by cases h)];exact q2
     ·rw [q0]
      refine hgn k cs hk ?_
      rw [getD_set _ _ _ hiL] at hL
      by_cases h:i=k
      ·rw [if_pos h] at hL;cases hL
      ·rw [if_neg h] at hL;exact hL
     ·rw [q0]
      refine hpn j k cs hk ?_
      rw [getD_set _ _ _ hiL] at hL
      by_cases h:i=j
      ·subst h;rw [hnw] at hk;cases hk
      ·rw [if_neg h] at hL;exact hL
   | al cs =>
    obtain ⟨hg,hal,howed⟩:= hstep
    refine wpOp_of ho ?_
    rw [if_pos (by simp [Region.wanted,hg])]
    have hρ:=rhoOf_sound' (st:={st with slots:=slotsOf st.slots (fun _=>true) (vs.take i) 0,objs:=(ns.take i).foldl stepH st.objs}) hops (g:=none) (.inl rfl) (fun p hpp=>howed p (List.mem_append.2 (.inl hpp)))
    have hnone:=hgn i cs hnw h1
    have hgone:=objsAt_get (p:=fun k=>L.getD k false) hnw (hfree _ hnone)
    simp only [h1,cond_false] at hgone
    have hlt:cnt (ns.take i) < (objsAt (fun k=>L.getD k false) ns).length:=(List.getElem?_eq_some_iff.1 hgone).1
    have hlen:((ns.take i).foldl stepN ([]: List (AObj C.S.El))).length=cnt (ns.take i):= by rw [fold_len];simp
    have hk0:((ns.take i).foldl stepH st.objs).length+((ns.take i).foldl stepN ([]: List (AObj C.S.El))).length=st.objs.length+cnt (ns.take i):= by rw [foldH_len,hlen]
    simp only [hk0] at hal
    refine (al_does hC hI hρ hal (fun p hpp=>howed p (List.mem_append.2 (.inr hpp))) (by rw [List.length_append];omega) (by simp only [obj,nth_eq,List.getElem?_append_right (show (lateAt (fun k=>L.getD k false) ns 0 st.objs).length≤st.objs.length+cnt (ns.take i) by omega),hbl,Nat.add_sub_cancel_left,hgone,Option.getD_some]) hnone).wp fun v w1 ⟨env1,r1,r2,r3,p1,p2⟩=> ?_
    refine hcont _ _ _ r3 ?_ (fun k cs' hk hL=>?_) (fun j k cs' hk hL=>?_) (hlnk env1 fun k hk=>r1 k (by omega)) p2
    ·rw [List.set_append_right _ _ (by omega),hbl,Nat.add_sub_cancel_left] at p1
     rw [objsAt_al hnw (hfree _ hnone) hset,hkeep (fun _ h=>by cases h)];exact p1
    ·rw [getD_set _ _ _ hiL] at hL
     by_cases h:i=k
     ·rw [if_pos h] at hL;cases hL
     ·rw [if_neg h] at hL
      rw [r1 _ (fun e=>h (cnt_inj ns i k cs cs' hnw hk (by omega)))]
      exact hgn k cs' hk hL
    ·rw [getD_set _ _ _ hiL] at hL
     by_cases h:i=j
     ·subst h;rw [hnw] at hk;cases hk
     ·rw [if_neg h] at hL
      by_cases hq:st.objs.length+k=st.objs.length+cnt (ns.take i)
      ·rw [hq];exact r2
      ·rw [r1 _ hq];exact hpn j k cs' hk hL
   | pt k cs =>
    obtain ⟨hg,hpt,rfl,howed⟩:= hstep
    obtain ⟨t,ad,x,old,hop,hra,hcx,hkD,hN,hsz',hold,hone,hinf⟩:= putA_some hpt
    refine wpOp_of ho ?_
    rw [if_pos (by simp [Region.wanted,hg])]
    have hρ:=rhoOf_sound' (st:={st with slots:=slotsOf st.slots (fun _=>true) (vs.take i) 0,objs:=(ns.take i).foldl stepH st.objs}) hops (g:=none) (.inl rfl) howed
    have hx:=hρ x (by rw [hop];simp [Op.operands])
    have had:=hρ ad (by rw [hop];simp [Op.operands])
    rw [hra] at had
    generalize hva:a.eval ad=va at had
    cases had with | ref _ _ b hb =>
    simp only [foldH_len] at hb
    have hn:=cellsOf_sound hcx hx
    have hnot : ∀(j:Nat) (cs:List (AV C.S.El)),(ns.take i)[j]?≠some (Nw.pt k cs):= fun j cs' hj=>hkD ((foldD_mem (ns.take i) [] k).2 (.inr ⟨j,cs',hj⟩))
    have hnot' : ∀(j:Nat) (cs:List (AV C.S.El)),j < i→ns[j]?≠some (Nw.pt k cs):= fun j cs' hji hj=>hnot j cs' (by rw [List.getElem?_take,if_pos hji];exact hj)
    have hnot2 : ∀(j:Nat) (cs':List (AV C.S.El)),i < j→ns[j]?≠some (Nw.pt k cs'):= fun j cs' hij hj=>by
     have hjl:j < vs.length:=by rw [←hnl];exact (List.getElem?_eq_some_iff.1 hj).1
     obtain ⟨oj,nwj,_,hnj,_,_,hsj⟩:= hlex.get 0 all vs ns [] [] st j vs[j].1 vs[j].2 (by rw [List.getElem?_eq_getElem hjl])
     rw [hj] at hnj
     cases hnj
     obtain ⟨_,_,_,_,_,_,_,hkD',_⟩:= putA_some hsj.2.1
     exact hkD' ((foldD_mem (ns.take j) [] k).2 (.inr ⟨i,cs,by rw [List.getElem?_take,if_pos hij];exact hnw⟩))
    have hfr:Free (fun i=>L.getD i false) ns 0 k:=fun j k' cs' hj hp e=>by
     subst e
     rw [Nat.zero_add] at hp
     dsimp only at hp
     rcases Nat.lt_trichotomy j i with h | h | h
     ·exact hnot' j cs' h hj
     ·subst h;rw [h1] at hp;cases hp
     ·exact hnot2 j cs' h hj
    rcases fold_al (ns.take i) [] k _ hN hnot with h | ⟨i0,cs0,q1,q2,q3⟩
    ·simp at h
    have hii:i0 < i:=by
     have:=(List.getElem?_eq_some_iff.1 q1).1
     simp only [List.length_take] at this;omega
    have q1':ns[i0]? = some (.al cs0):= by rw [List.getElem?_take,if_pos hii] at q1;exact q1
    have q2':cnt (ns.take i0)= k:=by
     rw [List.take_take,Nat.min_eq_left (by omega)] at q2;simpa using q2
    have hLi0:L.getD i0 false=true:=by
     cases hc:L.getD i0 false with
     | true=>rfl
     | false =>
      have:=hgn i0 cs0 q1' hc
      rw [q2'] at this
      rw [this] at hb;cases hb
    have hget:=objsAt_get (p:=fun k=>L.getD k false) q1' (by rw [q2'];exact hfr)
    simp only [hLi0,cond_true,q2'] at hget
    have hob:obj (lateAt (fun k=>L.getD k false) ns 0 st.objs ++ objsAt (fun k=>L.getD k false) ns) (st.objs.length+k)= .cells old:=by
     simp only [obj,nth_eq,List.getElem?_append_right (show (lateAt (fun k=>L.getD k false) ns 0 st.objs).length≤st.objs.length+k by omega),hbl,Nat.add_sub_cancel_left,hget,Option.getD_some,q3]
    obtain ⟨w1,r1,r2,r3⟩:= store_cells (off:=0) hI hob hb hn hsz' (by rw [hold];omega) hone hinf
    have hov:over old 0 cs=cs:=over_full old cs hold.symm
    rw [hov] at r2
    refine (does_skip (w':=w1) (R:=fun v w'=>v=undef∧w'=w1) (by simp [execOp,hop,hva,r1]) ⟨rfl,rfl⟩).wp fun v w2 ⟨hv,hw2⟩=> ?_
    subst hv hw2
    refine hcont _ env' _ (.any _) ?_ (fun k' cs' hk hL=>?_) (fun j k' cs' hk hL=>?_) (hlnk env' fun _ _=>rfl) r3
    ·rw [objsAt_pt hnw h1 hfr hset,hkeep (fun _ h=>by cases h)]
     rw [setN_eq,List.set_append_right _ _ (by omega),hbl,Nat.add_sub_cancel_left] at r2
     exact r2
    ·refine hgn k' cs' hk ?_
     rw [getD_set _ _ _ hiL] at hL
     by_cases h:i=k'
     ·rw [if_pos h] at hL;cases hL
     ·rw [if_neg h] at hL;exact hL
    ·rw [getD_set _ _ _ hiL] at hL
     by_cases h:i=j
     ·subst h;rw [hnw] at hk;cases hk
      rw [hb];simp
     ·rw [if_neg h] at hL;exact hpn j k' cs' hk hL
   | lt q =>
    obtain ⟨hg,⟨j,off,new,rfl,hlt,rfl,howed⟩| ⟨a0,k0,ob,ps,rfl,hak,howed⟩⟩:= hstep
    ·obtain ⟨t,ad,x,cs,hop,hra,hcx,hobj,_,hsy,hsz',hle,hone,hinf⟩:= lateA_some hlt
     refine wpOp_of ho ?_
     rw [if_pos (by simp [Region.wanted,hg])]
     have hρ:=rhoOf_sound' (st:={st with slots:=slotsOf st.slots (fun _=>true) (vs.take i) 0,objs:=(ns.take i).foldl stepH st.objs}) hops (g:=none) (.inl rfl) howed
     have hx:=hρ x (by rw [hop];simp [Op.operands])
     have had:=hρ ad (by rw [hop];simp [Op.operands])
     rw [hra] at had
     generalize hva:a.eval ad=va at had
     cases had with | ref _ _ b hb =>
     have hn:=cellsOf_sound hcx hx
     have hbase:=hsync hsy
     have hobj':obj ((ns.take i).foldl stepH st.objs) j = .cells cs:=hobj
     have hob:obj (lateAt (fun k=>L.getD k false) ns 0 st.objs ++ objsAt (fun k=>L.getD k false) ns) j = .cells cs:=by
      rw [hbase]
      rcases obj_app ((ns.take i).foldl stepH st.objs) (objsAt (fun k=>L.getD k false) ns) j with h | ⟨h,_⟩
      ·rw [h];exact hobj'
      ·rw [hobj'] at h;cases h
     have hjl:j < (lateAt (fun k=>L.getD k false) ns 0 st.objs).length:=by
      rw [hbase]
      rcases Nat.lt_or_ge j ((ns.take i).foldl stepH st.objs).length with h | h
      ·exact h
      ·rw [obj,nth_eq,List.getElem?_eq_none h] at hobj';cases hobj'
     obtain ⟨w1,r1,r2,r3⟩:= store_cells (off:=off) hI hob hb hn hsz' hle hone hinf
     have hbq:lateAt (fun k=>(L.setIfInBounds i true).getD k false) ns 0 st.objs=(lateAt (fun k=>L.getD k false) ns 0 st.objs).set j (.cells (over cs off new)):= by
      have e1:lateAt (fun k=>(L.setIfInBounds i true).getD k false) ns 0 st.objs=(ns.take (i+1)).foldl stepH st.objs:=by
       rw [←lateAt_take ns 0 (i+1)]
       refine lateAt_congr ns 0 _ fun j' u hj=>?_
       simp only [Nat.zero_add]
       rw [getD_set _ _ _ hiL]
       by_cases h:i=j'
       ·rw [if_pos h];simp;omega
       ·rw [if_neg h]
        rw [hlate hsy j' u hj]
        have:(j' < i) ↔ (j' < i+1):= by omega
        simp [this]
      rw [e1,take_foldl_get hnw,hbase]
      simp only [stepH,putQ,putL,hobj',setN_eq]
     refine (does_skip (w':=w1) (R:=fun v w'=>v=undef∧w'=w1) (by simp [execOp,hop,hva,r1]) ⟨rfl,rfl⟩).wp fun v w2 ⟨hv,hw2⟩=> ?_
     subst hv hw2
     refine hcont _ env' _ (.any _) ?_ (fun k' cs' hk hL=>?_) (fun j' k' cs' hk hL=>?_) (hlnk env' fun _ _=>rfl) r3
     ·rw [objsAt_same hnw rfl rfl hset,hbq]
      rw [setN_eq,List.set_append_left _ _ hjl] at r2
      exact r2
     ·refine hgn k' cs' hk ?_
      rw [getD_set _ _ _ hiL] at hL
      by_cases h:i=k'
      ·rw [if_pos h] at hL;cases hL
      ·rw [if_neg h] at hL;exact hL
     ·rw [getD_set _ _ _ hiL] at hL
      by_cases h:i=j'
      ·subst h;rw [hnw] at hk;cases hk
      ·rw [if_neg h] at hL;exact hpn j' k' cs' hk hL
    ·rcases apK_or hak with hak | hak
     ·obtain ⟨c,x0,t,e,xs,ys,f,hop,hc,hargs,hts,hel,hd,hobj,b2,b3,b4,b5,b6,b7,hsy,hgone,hk,hsb,honly,rfl,rfl,rfl⟩:= apK0_some hak
      have hS:=hC.sig
      refine wpOp_of ho ?_
      rw [if_pos (by simp [Region.wanted,hg])]
      have hρ:=rhoOf_sound' (st:={st with slots:=slotsOf st.slots (fun _=>true) (vs.take i) 0,objs:=(ns.take i).foldl stepH st.objs}) hops (g:=none) (.inl rfl) (fun p hpp=>howed p (List.mem_append.2 (.inl hpp)))
      have hpsz:=howed _ (List.mem_append.2 (.inr (List.mem_singleton.2 rfl)))
      have hG:=G2.map_ops (S:=C.S) (env:=env') (w:=w') (rho:=rhoOf C {st with slots:=slotsOf st.slots (fun _=>true) (vs.take i) 0,objs:=(ns.take i).foldl stepH st.objs} o) (e:=a.eval) c.args.toList (fun y hy=>hρ y (by rw [hop];simp [Op.operands,Call.operands,hc];simpa using hy))
      rw [hargs] at hG
      obtain ⟨vs1,us1,hv1,g1,hg2⟩:= hG.uncons
      obtain ⟨vx,us2,hv2,g2,hg3⟩:= hg2.uncons
      have hu2:us2=[]:= List.eq_nil_of_length_eq_zero hg3.1
      subst hu2;subst hv2
      have hav:c.args.map a.eval = #[vs1,vx]:= by apply Array.ext';simpa using hv1
      have hat:c.argTypes = #[t,t]:= by apply Array.ext';simpa using hts
      obtain ⟨inf,hinf,hsz'⟩:= info_of_size hS b2
      have hbs:=bytes_run (C:=C) hinf
      rw [hbs.1] at b4
      have hexec : ∀v' w1,(Builtin.append_ #[t,t] o.type #[vs1,vx]).run C.P w' = .ok v' w1→(execOp a.eval o).run C.P w' = .ok (.value v') w1:=by
       intro v' w1 hr
       simp [execOp,hop,resolve,hc,hav,hat,invoke,builtin,hr]
      have hbase:=hsync hsy
      simp only at hobj hgone hk hd
      have hA:(lateAt (fun k=>L.getD k false) ns 0 st.objs).length=((ns.take i).foldl stepH st.objs).length:=by rw [hbase]
      have hal:a0 < ((ns.take i).foldl stepH st.objs).length:=by
       rcases Nat.lt_or_ge a0 ((ns.take i).foldl stepH st.objs).length with h | h
       ·exact h
       ·rw [obj,nth_eq,List.getElem?_eq_none h] at hobj;cases hobj
      have hkl:k0 < ((ns.take i).foldl stepH st.objs).length:=by omega
      have hob:obj (lateAt (fun k=>L.getD k false) ns 0 st.objs ++ objsAt (fun k=>L.getD k false) ns) a0 = .row e xs:=by
       rw [hbase,obj_nth,List.getElem?_append_left hal,←obj_nth];exact hobj
      have hd':=deref_app_sl (C:=C) (objsAt (fun k=>L.getD k false) ns) hd
      rw [←hbase] at hd'
      cases g1 with | gs _ aa nn cc hv =>
      have ho1:=hI.objs a0
      rw [hob] at ho1
      obtain ⟨u',ws,e1,e2,e3⟩:= ho1
      rw [hv] at e1;cases e1
      have hlive:live (obj (lateAt (fun k=>L.getD k false) ns 0 st.objs ++ objsAt (fun k=>L.getD k false) ns) a0)= true:=by rw [hob];rfl
      have hfg:=hI.forget a0
      have hlt:a0 < (lateAt (fun k=>L.getD k false) ns 0 st.objs ++ objsAt (fun k=>L.getD k false) ns).length:=hI.fresh a0 _ hv
      have hrow:RowG C env' w' e xs ws:=⟨e2.1,fun i j hi=>by
       by_cases hj:j < C.S.sz e
       ·exact e3 i j hi hj
       ·have:(C.S.cell e (xs.getD i (C.S.dflt e))).getD j AV.any = .any:=by
         have:=hS.len e (xs.getD i (C.S.dflt e))
         generalize C.S.cell e (xs.getD i (C.S.dflt e))= cs at this ⊢
         rw [List.getD,List.getElem?_eq_none (by omega)];rfl
        rw [this];exact .any _⟩
      have hv0:env'.val k0=none:=hln i a0 k0 _ hnw h1
      obtain ⟨v',w1,env1,hrun,r1,hΓ,hI',hE'⟩:= append_at (ty:=o.type) (k0:=k0) hS hfg (fit_typ hel) hinf (zeroFit_run hinf b3) hsz' b4 e2 hrow (fun b hb=>by
        have hbv:blkV (.slice aa nn cc)= some b:=by cases aa <;> simp [Value.ownBlock,blkV] at hb ⊢;exact hb
        refine ⟨hI.free a0 _ b hlive hv hbv,fun j u1 h1 h2 h3=>?_⟩
        rw [obj_set _ a0 j _ hlt] at h1
        by_cases hij:a0=j
        ·rw [if_pos hij] at h1;cases h1
        ·rw [if_neg hij] at h1
         exact hij (hI.apart a0 j _ u1 b hlive h1 hv h2 hbv h3)) (.inr ⟨_,trivial,hd',hI⟩) g2 (by rw [setN_eq,List.length_set,List.length_append,hA];omega) hv0 (by rw [hbs.1] at hpsz;exact hpsz)
      have hlen:(setN (lateAt (fun k=>L.getD k false) ns 0 st.objs ++ objsAt (fun k=>L.getD k false) ns) a0 AObj.gone).length=(lateAt (fun k=>L.getD k false) ns 0 st.objs ++ objsAt (fun k=>L.getD k false) ns).length:=by rw [setN_eq,List.length_set]
      rw [hlen] at hE'
      have hbq:lateAt (fun k=>(L.setIfInBounds i true).getD k false) ns 0 st.objs=((lateAt (fun k=>L.getD k false) ns 0 st.objs).set a0 .gone).set k0 (.row e (xs ++ ys)):= by
       have e1:lateAt (fun k=>(L.setIfInBounds i true).getD k false) ns 0 st.objs=(ns.take (i+1)).foldl stepH st.objs:=by
        rw [←lateAt_take ns 0 (i+1)]
        refine lateAt_congr ns 0 _ fun j' u hj=>?_
        simp only [Nat.zero_add]
        rw [getD_set _ _ _ hiL]
        by_cases h:i=j'
        ·rw [if_pos h];simp;omega
        ·rw [if_neg h]
         rw [hlate hsy j' u hj]
         have:(j' < i) ↔ (j' < i+1):= by omega
         simp [this]
       rw [e1,take_foldl_get hnw,hbase]
       simp only [stepH,putQ,setN_eq]
      refine (does_value (R:=fun v2 w2=>v2=v'∧w2=w1) (hexec _ _ hrun) ⟨rfl,rfl⟩).wp fun v2 w2 ⟨hv2,hw2⟩=> ?_
      subst hv2 hw2
      refine hcont _ env1 _ hΓ ?_ (fun k' cs' hk' hL=>?_) (fun j' k' cs' hk' hL=>?_) (fun j' a' k' ob' hj hL=>?_) hE'
      ·rw [objsAt_same hnw rfl rfl hset,hbq]
       rw [setN_eq,List.set_append_left _ _ (by rw [hA];exact hal),List.set_append_left _ _ (by rw [List.length_set,hA];exact hkl)] at hI'
       exact hI'
      ·rw [foldH_len] at hk
       rw [r1 _ (by omega)]
       refine hgn k' cs' hk' ?_
       rw [getD_set _ _ _ hiL] at hL
       by_cases h:i=k'
       ·rw [if_pos h] at hL;cases hL
       ·rw [if_neg h] at hL;exact hL
      ·rw [foldH_len] at hk
       rw [r1 _ (by omega)]
       rw [getD_set _ _ _ hiL] at hL
       by_cases h:i=j'
       ·subst h;rw [hnw] at hk';cases hk'
       ·rw [if_neg h] at hL;exact hpn j' k' cs' hk' hL
      ·exfalso
       rw [getD_set _ _ _ hiL] at hL
       by_cases h:i=j'
       ·rw [if_pos h] at hL;cases hL
       ·obtain ⟨_,q2,q3⟩:= hapk j' a' k' ob' hj
        rw [honly j' q2 (Ne.symm h)] at q3
        cases q3
     ·obtain ⟨t,x0,lo,kk,l,u,xs,hop,hx0,hlo,hobj,b1,b2,b3,b5,b6,b7,hsy,hgone,hk,hsb,honly,rfl,rfl,rfl⟩:= apT_some hak
      have hS:=hC.sig
      refine wpOp_of ho ?_
      rw [if_pos (by simp [Region.wanted,hg])]
      have hρ:=rhoOf_sound' (st:={st with slots:=slotsOf st.slots (fun _=>true) (vs.take i) 0,objs:=(ns.take i).foldl stepH st.objs}) hops (g:=none) (.inl rfl) (fun p hpp=>howed p (List.mem_append.2 (.inl hpp)))
      have hpb:=howed _ (List.mem_append.2 (.inr (List.mem_singleton.2 rfl)))
      have g1:=hρ x0 (by rw [hop];simp [Op.operands])
      rw [hx0] at g1
      have g2:=hρ lo (by rw [hop];simp [Op.operands])
      rw [hlo] at g2
      have g2:=g2.unv
      have hbase:=hsync hsy
      simp only at hobj hgone hk
      have hA:(lateAt (fun k=>L.getD k false) ns 0 st.objs).length=((ns.take i).foldl stepH st.objs).length:=by rw [hbase]
      have hal:a0 < ((ns.take i).foldl stepH st.objs).length:=by
       rcases Nat.lt_or_ge a0 ((ns.take i).foldl stepH st.objs).length with h | h
       ·exact h
       ·rw [obj,nth_eq,List.getElem?_eq_none h] at hobj;cases hobj
      have hkl:k0 < ((ns.take i).foldl stepH st.objs).length:=by omega
      have hob:obj (lateAt (fun k=>L.getD k false) ns 0 st.objs ++ objsAt (fun k=>L.getD k false) ns) a0 = .row u xs:=by
       rw [hbase,obj_nth,List.getElem?_append_left hal,←obj_nth];exact hobj
      have hv0:env'.val k0=none:=hln i a0 k0 _ hnw h1
      obtain ⟨v',env1,hrun,r1,hΓ,hI',hE'⟩:= tail_at hS hI hob b1 b2 hpb g1 (k:=kk) (k0:=k0) (by rw [List.length_append,hA];omega) hv0
      have hbq:lateAt (fun k=>(L.setIfInBounds i true).getD k false) ns 0 st.objs=((lateAt (fun k=>L.getD k false) ns 0 st.objs).set a0 .gone).set k0 (.row u (xs.drop l.toNat)):= by
       have e1:lateAt (fun k=>(L.setIfInBounds i true).getD k false) ns 0 st.objs=(ns.take (i+1)).foldl stepH st.objs:=by
        rw [←lateAt_take ns 0 (i+1)]
        refine lateAt_congr ns 0 _ fun j' u hj=>?_
        simp only [Nat.zero_add]
        rw [getD_set _ _ _ hiL]
        by_cases h:i=j'
        ·rw [if_pos h];simp;omega
        ·rw [if_neg h]
         rw [hlate hsy j' u hj]
         have:(j' < i) ↔ (j' < i+1):= by omega
         simp [this]
       rw [e1,take_foldl_get hnw,hbase]
       simp only [stepH,putQ,setN_eq]
      have hexec:(execOp a.eval o).run C.P w' = .ok (.value v') w':=by
       have hrun:(Instr.sliceAt t (a.eval x0) (some (a.eval lo)) none none).run C.P w' = .ok v' w':=by rw [g2];exact hrun
       simp [execOp,hop,hrun]
      refine (does_value (R:=fun v2 w2=>v2=v'∧w2=w') hexec ⟨rfl,rfl⟩).wp fun v2 w2 ⟨hv2,hw2⟩=> ?_
      subst hv2 hw2
      refine hcont _ env1 _ hΓ ?_ (fun k' cs' hk' hL=>?_) (fun j' k' cs' hk' hL=>?_) (fun j' a' k' ob' hj hL=>?_) hE'
      ·rw [objsAt_same hnw rfl rfl hset,hbq]
       rw [setN_eq,List.set_append_left _ _ (by rw [hA];exact hal),List.set_append_left _ _ (by rw [List.length_set,hA];exact hkl)] at hI'
       exact hI'
      ·rw [foldH_len] at hk
       rw [r1 _ (by omega)]
       refine hgn k' cs' hk' ?_
       rw [getD_set _ _ _ hiL] at hL
       by_cases h:i=k'
       ·rw [if_pos h] at hL;cases hL
       ·rw [if_neg h] at hL;exact hL
      ·rw [foldH_len] at hk
       rw [r1 _ (by omega)]
       rw [getD_set _ _ _ hiL] at hL
       by_cases h:i=j'
       ·subst h;rw [hnw] at hk';cases hk'
       ·rw [if_neg h] at hL;exact hpn j' k' cs' hk' hL
      ·exfalso
       rw [getD_set _ _ _ hiL] at hL
       by_cases h:i=j'
       ·rw [if_pos h] at hL;cases hL
       ·obtain ⟨_,q2,q3⟩:= hapk j' a' k' ob' hj
        rw [honly j' q2 (Ne.symm h)] at q3
        cases q3
end region
theorem newAt_false {p:Nat→Bool} (hp : ∀k,p k=false): ∀(l:List (Nw C.S.El)) (i:Nat),∀o∈newAt p l i,o = .gone
 | [],_,o,h=>by cases h
 | .no::l,i,o,h=>newAt_false hp l (i+1) o h
 | .lt _::l,i,o,h=>newAt_false hp l (i+1) o h
 | .pt _ _::l,i,o,h=>newAt_false hp l (i+1) o h
 | .al _::l,i,o,h=>by
  simp only [newAt,hp,cond_false,List.mem_cons] at h
  exact h.elim id (newAt_false hp l (i+1) o)
theorem putsAt_false {p:Nat→Bool} (hp : ∀k,p k=false): ∀(l:List (Nw C.S.El)) (i:Nat) (N:List (AObj C.S.El)),putsAt p l i N=N
 | [],_,N=>rfl
 | .no::l,i,N=>putsAt_false hp l (i+1) N
 | .lt _::l,i,N=>putsAt_false hp l (i+1) N
 | .al _::l,i,N=>putsAt_false hp l (i+1) N
 | .pt _ _::l,i,N=>by simp only [putsAt,hp,cond_false];exact putsAt_false hp l (i+1) N
theorem objsAt_false {p:Nat→Bool} (hp : ∀k,p k=false) (l:List (Nw C.S.El)): ∀o∈objsAt p l,o = .gone:=by
 unfold objsAt
 rw [putsAt_false hp];exact newAt_false hp l 0
theorem obj_gone {H N:List (AObj C.S.El)} (hN : ∀o∈N,o = .gone) (i:Nat): obj (H ++ N) i=obj H i:=by
 unfold obj
 rw [nth_eq,nth_eq]
 rcases Nat.lt_or_ge i H.length with h | h
 ·rw [List.getElem?_append_left h]
 ·rw [List.getElem?_append_right h,List.getElem?_eq_none h]
  cases hg:N[i - H.length]? with
  | none=>rfl
  | some o=>rw [hN o (List.mem_of_getElem? hg)];rfl
theorem Inv.app_gone (hI:Inv C.S B env w H) {N:List (AObj C.S.El)} (hN : ∀o∈N,o = .gone): Inv C.S B env w (H ++ N):=
 ⟨fun i=>by rw [obj_gone hN];exact hI.objs i,fun i v b hl=>hI.free i v b (by rwa [obj_gone hN] at hl),
  fun i j u v b hl hl'=>hI.apart i j u v b (by rwa [obj_gone hN] at hl) (by rwa [obj_gone hN] at hl'),hI.inheap,fun i v h=>Nat.lt_of_lt_of_le (hI.fresh i v h) (by simp),hI.glob,hI.base⟩
theorem draw_sound (hC:CxOk C) {inl:Inl C.S.El} (hinl:InlOk C inl) (hplainF : ∀f args H K,inl f args H K→Plain C.P f) {id:Nat} {ops:Array Oper} (h0:edgesOk ops.toList=true) (h1:apartOk ops.toList (bitsBefore ops.toList)= true) (h2:tailOk ops.toList (bitsBefore ops.toList) (pickM C ops.toList)= true)
  {st:St C.S.El} {K:St C.S.El→Prop} (hsp:spareB C ops.toList=true→env.val (st.objs.length - 1)= none) (h:evDs C (lateTg C ops.toList (lateIx C ops.toList (pickM C ops.toList)) st) ops.toList (lateIx C ops.toList (pickM C ops.toList)) 0 (pickM C ops.toList) ops.toList st [] [] fun rest st'=>evOps C inl ops.toList rest st' K) {a:Act} (hr:Rel C B env st a w) {Q:Exit→Act→World→Prop}
  (hQ : ∀st' env' a' w',K st'→Rel C B env' st' a' w'→st'.lo=st.lo→Ext B st.lo env w env' w'→Q .normal a' w'): (Code.region id ops true).wp C.P Q a w:=by
 obtain ⟨vs,ns,g1,g2,gn,g3⟩:= evDs_spec _ _ _ _ _ _ _ h
 rw [fold_objsAt ns [] (g1.putsIn _ _ _ _ _ _ _ gn),List.nil_append,←lateAt_true] at g3
 change evOps C inl ops.toList _ {st with slots:=slotsOf st.slots (fun _=>true) vs 0,objs:=lateAt (fun _=>true) ns 0 st.objs ++ objsAt (fun _=>true) ns} K at g3
 have hfm : ∀l:List Oper,firstM C l≤l.length:=by
  intro l
  induction l with
  | nil=>simp [firstM]
  | cons o l ih=>simp only [firstM];cases isDrawn C o <;> simp [ih]
 have hfm2 : ∀l:List Oper,firstM2 C l≤l.length:=by
  intro l
  induction l with
  | nil=>simp [firstM2]
  | cons o l ih=>simp only [firstM2];cases (isDrawn C o || isAlloc o || isAppend o) <;> simp [ih]
 have hfm3 : ∀l:List Oper,firstM3 C l≤l.length:=by
  intro l
  induction l with
  | nil=>simp [firstM3]
  | cons o l ih=>simp only [firstM3];cases (isDrawn C o || isAlloc o || isStore o || isAppend o) <;> simp [ih]
 have hpm:pickM C ops.toList≤ops.toList.length:=by
  unfold pickM
  cases hcm:cloM C ops.toList with
  | some k=>exact Nat.le_of_lt (List.mem_range.1 (List.mem_of_find?_eq_some hcm))
  | none =>
  show (bif _ then _ else _)≤_
  cases (apCall ops.toList && tailOk ops.toList (bitsBefore ops.toList) (firstM2 C ops.toList))
  ·cases tailOk ops.toList (bitsBefore ops.toList) (firstM C ops.toList)
   ·cases tailOk ops.toList (bitsBefore ops.toList) (firstM2 C ops.toList)
    ·cases tailOk ops.toList (bitsBefore ops.toList) (firstM3 C ops.toList)
     ·cases hmm:Nat.ble (minM ops.toList (bitsBefore ops.toList)) ops.toList.length
      ·exact Nat.zero_le _
      ·exact Nat.le_of_ble_eq_true hmm
     ·exact hfm3 _
    ·exact hfm2 _
   ·exact hfm _
  ·exact hfm2 _
 have hvl:vs.length=pickM C ops.toList:=by rw [g2,Nat.min_eq_left hpm]
 rw [←hvl] at g3 h2
 refine wp_region_any hC.mixed ?_
 have hI0:Inv C.S B env {w with drawn:=w.drawn+1} st.objs∧Ext B st.objs.length env w env {w with drawn:=w.drawn+1}:= hr.inv.below ((Below.refl _ _).drew)
 have hunl:unl ops.toList.length (Array.replicate ops.size false)= ops.size:=by
  unfold unl
  rw [List.filter_eq_self.2 (fun i hi=>by simp [Array.getD_eq_getD_getElem?,Array.getElem?_replicate];split <;> rfl)]
  simp
 have hed : ∀i o,ops.toList[i]? = some o→∀e∈o.after.toList,Region.binds .any e=true→e.on < i:=by
  intro i o ho e he hb
  have:=(List.all_eq_true.1 h0) i (List.mem_range.2 (List.getElem?_eq_some_iff.1 ho).1)
  rw [nth_eq,ho] at this
  have:=(List.all_eq_true.1 this) e he
  rw [hb,cond_true] at this
  simp only [Nat.blt,Nat.ble_eq] at this
  omega
 have key:=pre_sound (all:=ops.toList) (env:=env) (w:=w) (Q:=Q) hC hinl hplainF hed
  (fun j hj hjl i hi=>by
   have:=(List.all_eq_true.1 h2) j (List.mem_range.2 hjl)
   rw [Nat.ble_eq_true_of_le hj,cond_true] at this
   exact (List.all_eq_true.1 this) i (List.mem_range.2 hi))
  (fun i j oi oj hij hi hj=>by
   have:=(List.all_eq_true.1 h1) j (List.mem_range.2 (List.getElem?_eq_some_iff.1 hj).1)
   have:=(List.all_eq_true.1 this) i (List.mem_range.2 hij)
   unfold apart2 at this
   rw [nth_eq,nth_eq,hi,hj] at this
   simp only [Bool.or_eq_true,Bool.and_eq_true] at this
   refine this.imp (fun h=>h) fun ⟨q1,q2⟩=> ⟨fun d hd hm=>?_,fun d hd hm=>?_⟩
   ·rw [hd] at q1;simp only [disj,Bool.not_eq_true'] at q1;rw [List.contains_iff_mem.2 hm] at q1;cases q1
   ·rw [hd] at q2;simp only [disj,Bool.not_eq_true'] at q2;rw [List.contains_iff_mem.2 hm] at q2;cases q2)
  g1 gn (by rw [hvl];exact hpm) g3 hr.lo hr.inv.fresh hQ ops.size (Array.replicate ops.size false) env a {w with drawn:=w.drawn+1} (by simp)
  (fun i o ho hL=>by exfalso;revert hL;simp [Array.getD_eq_getD_getElem?,Array.getElem?_replicate];split <;> simp)
  (fun i _=>by simp [Array.getD_eq_getD_getElem?,Array.getElem?_replicate];split <;> simp) hr.size hr.defers (fun t=>?_) ?_ (fun k cs _ _=>?_) (fun j k cs _ hL=>?_) (fun j a0 k0 ob hj _=>?_) hI0.2 hunl
 ·simpa using key
 ·have e:lk (slotsOf st.slots (fun i=>(Array.replicate ops.size false).getD i false) vs 0) t=lk st.slots t:=by
   rw [slotsOf_congr vs 0 st.slots st.slots _ (fun _=>false) rfl (fun k x hk=>by simp [Array.getD_eq_getD_getElem?,Array.getElem?_replicate];split <;> simp),slotsOf_false]
  rw [e]
  exact (hr.slots t).ext hI0.2 hr.inv.fresh
 ·rw [lateAt_false _ _ _ (fun k=>by simp [Array.getD_eq_getD_getElem?,Array.getElem?_replicate];split <;> rfl)]
  exact hI0.1.app_gone (objsAt_false (fun k=>by simp [Array.getD_eq_getD_getElem?,Array.getElem?_replicate];split <;> rfl) ns)
 ·cases hv:env.val (st.objs.length+cnt (ns.take k)) with
  | none=>rfl
  | some v=>exact absurd (hr.inv.fresh _ v hv) (by omega)
 ·exfalso;revert hL;simp [Array.getD_eq_getD_getElem?,Array.getElem?_replicate];split <;> simp
 ·have hjl:j < vs.length:=by rw [←gn];exact (List.getElem?_eq_some_iff.1 hj).1
  obtain ⟨oj,nwj,hoj,hnj,_,_,hsj⟩:= g1.get 0 ops.toList vs ns [] [] st j vs[j].1 vs[j].2 (by rw [List.getElem?_eq_getElem hjl])
  rw [hj] at hnj
  cases hnj
  rcases hsj.2 with ⟨_,_,_,h,_⟩| ⟨_,_,_,_,e,h,_⟩
  ·cases h
  ·cases e
   obtain ⟨_,_,_,hk,hsb,_⟩:= apK_com h
   have:=hsp hsb
   simp only [foldH_len] at hk
   rw [←hk] at this
   simpa using this
theorem Rel.spare {B:Nat} {env:Env} {w:World} {st:St C.S.El} {a:Act} (all:List Oper) (h:Rel C B env st a w): Rel C B env (spareS C all st) a w∧(spareS C all st).lo=st.lo∧(spareB C all=true→env.val ((spareS C all st).objs.length - 1)= none):= by
 unfold spareS
 cases hb:spareB C all with
 | false=>exact ⟨h,rfl,fun h=>by cases h⟩
 | true =>
  refine ⟨⟨h.size,h.defers,h.slots,h.inv.app_gone (by simp), ?_⟩,rfl,fun _=>?_⟩
  ·show st.lo≤(st.objs ++ [AObj.gone]).length
   have:=h.lo
   simp;omega
  ·show env.val ((st.objs ++ [AObj.gone]).length - 1)= none
   cases hv:env.val ((st.objs ++ [AObj.gone]).length - 1) with
   | none=>rfl
   | some v =>
    have:=h.inv.fresh _ v hv
    simp at this
theorem lbit_arr {L:List Bool} {i:Nat}: L.toArray.getD i false=lbit L i:=by
 unfold lbit
 rw [nth_eq]
 simp [Array.getD_eq_getD_getElem?]
theorem mem_rdy {all:List Oper} {L:List Bool} (hs:L.length=all.length) {i:Nat} (h:i∈Region.ready .any all.toArray L.toArray): i∈rdy all L:=by
 obtain ⟨o,h1,h2,h3⟩:= (ready_iff (L:=L.toArray) (by simpa using hs)).1 h
 unfold rdy
 rw [List.mem_filter]
 refine ⟨List.mem_range.2 (List.getElem?_eq_some_iff.1 h1).1, ?_⟩
 rw [nth_eq,h1]
 rw [lbit_arr] at h2
 simp only [h2,Bool.not_false,Bool.true_and,List.all_eq_true]
 intro e he
 cases hb:Region.binds .any e
 ·rfl
 ·have:=h3 e he hb
  rw [lbit_arr] at this
  rw [this];rfl
theorem evEach_mem {P:Nat→Prop}: ∀(l:List Nat) (i:Nat),evEach P i l→∀j∈i::l,P j
 | [],i,k,j,hj=>by
  rw [List.mem_singleton] at hj
  subst hj;exact k
 | a::l,i,k,j,hj=>by
  rcases List.mem_cons.1 hj with rfl | hj
  ·exact k.1
  ·exact evEach_mem l a k.2 j hj
theorem any_sound (hC:CxOk C) {inl:Inl C.S.El} (hinl:InlOk C inl) (hplainF : ∀f args H K,inl f args H K→Plain C.P f) {all:List Oper} {K:St C.S.El→Prop} {Q:Exit→Act→World→Prop} {lo:Nat}
  {env:Env} {w:World} (hQ : ∀st' env' a' w',K st'→Rel C B env' st' a' w'→st'.lo=lo→Ext B lo env w env' w'→Q .normal a' w'):
  ∀(f:Nat) (L:List Bool) (st:St C.S.El) (env':Env) (a:Act) (w':World),L.length=all.length→evAny C inl all f L st K→Rel C B env' st a w'→st.lo=lo→Ext B lo env w env' w'→wpAny C.P .any all.toArray Q f L.toArray a w':=by
 intro f
 induction f with
 | zero =>
  intro L st env' a w' hs hev hr hlo hE
  unfold evAny at hev
  cases hrd:rdy all L with
  | nil =>
   rw [hrd] at hev
   refine ⟨List.eq_nil_iff_forall_not_mem.2 fun i hi=>?_,hQ st env' a w' hev hr hlo hE⟩
   have:=mem_rdy hs hi
   rw [hrd] at this;cases this
  | cons i is=>rw [hrd] at hev;exact hev.elim
 | succ f ih =>
  intro L st env' a w' hs hev hr hlo hE
  unfold evAny at hev
  cases hrd:rdy all L with
  | nil =>
   rw [hrd] at hev
   refine ⟨fun _=>hQ st env' a w' hev hr hlo hE,fun i hi=>?_⟩
   have:=mem_rdy hs hi
   rw [hrd] at this;cases this
  | cons i0 is =>
   rw [hrd] at hev
   have hall:=evEach_mem is i0 hev
   refine ⟨fun h0=>?_,fun i hi=>?_⟩
   ·exfalso
    have h1:i0∈rdy all L:=by rw [hrd];exact List.mem_cons_self
    unfold rdy at h1
    rw [List.mem_filter] at h1
    obtain ⟨h1,h2⟩:= h1
    cases hn:nth all i0 with
    | none=>rw [hn] at h2;cases h2
    | some o =>
     rw [hn] at h2
     simp only [Bool.and_eq_true,Bool.not_eq_true',List.all_eq_true,Bool.or_eq_true] at h2
     have:i0∈Region.ready .any all.toArray L.toArray:=(ready_iff (L:=L.toArray) (by simpa using hs)).2 ⟨o,by rw [←nth_eq];exact hn,by rw [lbit_arr];exact h2.1,fun e he hb=>by
      rw [lbit_arr]
      rcases h2.2 e he with h | h
      ·rw [hb] at h;cases h
      ·exact h⟩
     rw [h0] at this;cases this
   ·have hi2:=hall i (by rw [←hrd];exact mem_rdy hs hi)
    cases hn:nth all i with
    | none=>rw [hn] at hi2;exact hi2.elim
    | some o =>
     rw [hn] at hi2
     refine wpOp_of (by rw [←nth_eq];exact hn) (evOps_head hC hinl hplainF hi2 hr fun st1 env1 a1 w1 k1 k2 k3 k4=>?_)
     have e:L.toArray.setIfInBounds i true=(setN L i true).toArray:=by
      rw [setN_eq];simp
     rw [e]
     exact ih (setN L i true) st1 env1 a1 w1 (by rw [setN_eq];simpa using hs) k1 k2 (k3.trans hlo) (hE.trans (by rw [hlo] at k4;exact k4))
theorem any_draw (hC:CxOk C) {inl:Inl C.S.El} (hinl:InlOk C inl) (hplainF : ∀f args H K,inl f args H K→Plain C.P f) {id:Nat} {ops:Array Oper}
  {st:St C.S.El} {K:St C.S.El→Prop} (h:evAny C inl ops.toList ops.toList.length (List.replicate ops.toList.length false) st K) {a:Act} (hr:Rel C B env st a w) {Q:Exit→Act→World→Prop}
  (hQ : ∀st' env' a' w',K st'→Rel C B env' st' a' w'→st'.lo=st.lo→Ext B st.lo env w env' w'→Q .normal a' w'): (Code.region id ops true).wp C.P Q a w:=by
 refine wp_region_any hC.mixed ?_
 have hI0:Inv C.S B env {w with drawn:=w.drawn+1} st.objs∧Ext B st.objs.length env w env {w with drawn:=w.drawn+1}:= hr.inv.below ((Below.refl _ _).drew)
 have hr0:Rel C B env st a {w with drawn:=w.drawn+1}:= ⟨hr.size,hr.defers,fun t=>(hr.slots t).ext hI0.2 hr.inv.fresh,hI0.1,hr.lo⟩
 have:=any_sound (env:=env) (w:=w) (Q:=Q) hC hinl hplainF hQ ops.toList.length (List.replicate ops.toList.length false) st env a {w with drawn:=w.drawn+1} (by simp) h hr0 rfl (hI0.2.mono hr.lo)
 simpa using this
end
end Go.Aw
