/-
  Regions without a drawn order (own work).
-/
import Derived.Test.YtlnbhdcaebmffaaGreatXAwI
import Derived.Deep.LoopGhost
set_option linter.unusedSimpArgs false
set_option linter.unusedVariables false
namespace Go.Aw
open Go.RowKit
theorem cond_both {b:Bool} {X Y:Prop}: cond b X Y ↔ (b=true→X)∧(b=false→Y):= by cases b <;> simp
structure Rel (C:Cx) (B:Nat) (env:Env) (st:St C.S.El) (a:Act) (w:World): Prop where
 size:a.tmps.size=st.n
 defers:a.defers=[]
 slots : ∀t,Γ C.S env w (lk st.slots t) (a.tmps.getD t undef)
 inv:Inv C.S B env w st.objs
 lo:st.lo≤st.objs.length
def InlOk (C:Cx) (inl:Inl C.S.El): Prop:=∀f args H K,inl f args H K→∀(B:Nat) (env:Env) (w:World) (vals:List Value),G2 C.S env w args vals→Inv C.S B env w H→
 Calls C.P f vals.toArray w fun e w' => ∃v env' r H',e = .returned v∧K r H'∧Γ C.S env' w' r v∧Inv C.S B env' w' H'∧Ext B (lwm C f H.length) env w env' w'∧lwm C f H.length≤H'.length
section
variable {C:Cx} {env:Env} {w:World} {B:Nat}
theorem look_sound {st:St C.S.El} {a:Act} (h:Rel C B env st a w) (x:Operand): Γ C.S env w (look C st.slots x) (a.eval x):= by
 cases x with
 | tmp t=>exact h.slots t
 | const v=>exact .v v
 | global g=>exact h.inv.glob g
 | func f =>
  show Γ C.S _ _ (bif Nat.blt f mvK then .clo f [] else .any) (.func (.func f) #[] #[])
  cases hb:Nat.blt f mvK
  ·exact .any _
  ·rw [←closV_lt #[] hb]
   exact .clo f [] #[] rfl (fun j=>by simpa using Γ.any (S:=C.S) _)
theorem owedMem {g:Option Bool} {p:Prop}: ∀(xs:List (AV C.S.El)),p∈owed g xs ↔ ∃x∈xs,p∈owed1 g x
 | []=> by simp [owed]
 | x::xs=>by simp [owed,owedMem xs]
theorem rhoOf_sound' {st:St C.S.El} {a:Act} {o:Oper} (h : ∀x∈o.op.operands.toList,Γ C.S env w (look C st.slots x) (a.eval x)) {g:Option Bool} (hg:g=none∨g=some true) (hp : ∀p∈owedOf C st o g,p): ∀x∈o.op.operands.toList,Γ C.S env w (rhoOf C st o x) (a.eval x):= by
 intro x hx
 unfold rhoOf
 have h1:=h x hx
 cases hpk:isPick o.op
 ·rw [cond_false]
  refine h1.unGd fun b hb=>?_
  unfold owedOf at hp
  rw [hpk,cond_false] at hp
  cases hl:look C st.slots x with
  | gd c y =>
   rw [hl] at hb
   simp only [unGd,List.mem_singleton] at hb
   subst hb
   have hm : ∀p,p∈owed1 g (look C st.slots x)→p:=fun p hpp=>hp p ((owedMem _).2 ⟨_,List.mem_map_of_mem hx,hpp⟩)
   rw [hl] at hm
   rcases hg with rfl | rfl
   ·exact hm _ (by simp [owed1])
   ·exact hm _ (List.mem_singleton.2 rfl) rfl
  | _=>rw [hl] at hb;simp [unGd] at hb
 ·exact h1
theorem rhoOf_sound {st:St C.S.El} {a:Act} (h:Rel C B env st a w) {o:Oper} {g:Option Bool} (hg:g=none∨g=some true) (hp : ∀p∈owedOf C st o g,p): ∀x∈o.op.operands.toList,Γ C.S env w (rhoOf C st o x) (a.eval x):=
 rhoOf_sound' (fun x _=>look_sound h x) hg hp
theorem Rel.put {st st':St C.S.El} {a:Act} (h:Rel C B env st a w) {env':Env} {w':World} {H:List (AObj C.S.El)} (hE:Ext B st.objs.length env w env' w') (hI:Inv C.S B env' w' H) (hH:st.objs.length≤H.length) {d:Option Nat} {x:AV C.S.El} {v:Value} (hx:Γ C.S env' w' x v)
  (hput:putD {st with objs:=H} d x=some st'): Rel C B env' st' (a.put d v) w'∧st'.lo=st.lo:=by
 have hs : ∀t,Γ C.S env' w' (lk st.slots t) (a.tmps.getD t undef):= fun t=>(h.slots t).ext hE h.inv.fresh
 unfold putD at hput
 cases d with
 | none =>
  simp only [Option.some.injEq] at hput
  subst hput
  exact ⟨⟨h.size,h.defers,hs,hI,Nat.le_trans h.lo hH⟩,rfl⟩
 | some d =>
  obtain ⟨hd,hput⟩:= cond_some hput
  cases hput
  have hd':d < st.n:=by simp only [Nat.blt,Nat.ble_eq] at hd;omega
  refine ⟨⟨by simp [Act.put,h.size],by simp [Act.put,h.defers],fun t=>?_,hI,Nat.le_trans h.lo hH⟩,rfl⟩
  simp only [lk,Act.put]
  cases ht:Nat.beq d t
  ·rw [cond_false]
   have hne:d≠t:=fun e=>by subst e;simp at ht
   have:(a.tmps.setIfInBounds d v).getD t undef=a.tmps.getD t undef:=by simp [Array.getD_eq_getD_getElem?,Array.getElem?_setIfInBounds,hne]
   rw [this];exact hs t
  ·rw [cond_true]
   have he:=Nat.eq_of_beq_eq_true ht
   subst he
   have:(a.tmps.setIfInBounds d v).getD d undef=v:=by
    have:d < a.tmps.size:=by rw [h.size];exact hd'
    simp [Array.getD_eq_getD_getElem?,Array.getElem?_setIfInBounds,this]
   rw [this];exact hx
theorem freeze1_len (H:List (AObj C.S.El)) (i:Nat): (freeze1 H i).length=H.length:=by
 unfold freeze1
 cases obj H i <;> simp [setN_eq]
theorem freezeAll_len : ∀(l:List Nat) (H:List (AObj C.S.El)),(freezeAll H l).length=H.length
 | [],H=>rfl
 | i::l,H=>by show (freezeAll (freeze1 H i) l).length=_;rw [freezeAll_len l,freeze1_len]
theorem clearA_len {c:Call} {rho:Operand→AV C.S.El} {H H':List (AObj C.S.El)} (h:clearA C c rho H=some H'): H'.length=H.length:=by
 unfold clearA at h
 repeat' (split at h)
 all_goals first
  | (cases h;done)
  | (obtain ⟨_,h2⟩:= cond_some h;cases h2;simp [setN_eq];done)
theorem tailA_len {t:TypeId} {H H':List (AObj C.S.El)} {x:AV C.S.El} {lo hi mx:Option (AV C.S.El)} {ps:List Prop} {r:AV C.S.El} (h:tailA C t H x lo hi mx=some (ps,r,H')): H.length≤H'.length:=by
 unfold tailA at h
 split at h
 ·split at h
  ·obtain ⟨_,h2⟩:= cond_some h
   cases h2
   simp [setN_eq]
  ·cases h
 ·cases h
theorem evI_len {o:Oper} {rho:Operand→AV C.S.El} {H H':List (AObj C.S.El)} {ps:List Prop} {r:AV C.S.El} (h:evI C o rho H=some (ps,r,H')): H.length≤H'.length:=by
 unfold evI at h
 cases hop:o.op <;> rw [hop] at h <;> simp only [reduceCtorEq] at h
 case box t x =>
  simp only [Option.map_eq_some_iff] at h
  obtain ⟨cs,_,h⟩:= h
  cases h;simp
 case alloc t =>
  simp only [Option.map_eq_some_iff] at h
  obtain ⟨cs,_,h⟩:= h
  cases h;simp
 case buildSlice t len parts =>
  simp only [Option.map_eq_some_iff] at h
  obtain ⟨cs,_,h⟩:= h
  cases h;simp [freezeAll_len]
 case store t ad x =>
  repeat' (split at h)
  all_goals first
   | (cases h;done)
   | (obtain ⟨_,h2⟩:= cond_some h;cases h2 <;> simp [setN_eq];done)
   | (obtain ⟨_,h2⟩:= cond_some h;cases h2;done)
 case makeMap t r =>
  repeat' (split at h)
  all_goals (cases h <;> simp)
 case mapUpdate t m k x =>
  simp only [Option.map_eq_some_iff] at h
  obtain ⟨H2,hH,h⟩:= h
  cases h
  rw [putM_len hH];exact Nat.le_refl _
 case insert t m k x =>
  simp only [Option.map_eq_some_iff] at h
  obtain ⟨H2,hH,h⟩:= h
  cases h
  rw [putM_len hH];exact Nat.le_refl _
 case makeSlice t l c =>
  repeat' (split at h)
  all_goals first
   | (cases h;done)
   | (obtain ⟨_,h2⟩:= cond_some h;cases h2;simp;done)
 case convert s d x =>
  simp only [Option.map_eq_some_iff] at h
  obtain ⟨cs,_,h⟩:= h
  cases h;simp
 case slice t x lo hi mx =>
  split at h
  ·cases h;exact Nat.le_refl _
  split at h
  ·rename_i r' htl
   cases h
   exact tailA_len htl
  split at h
  ·simp only [Option.map_eq_some_iff] at h
   obtain ⟨cs,_,h⟩:= h
   cases h
   rw [freeze1_len];exact Nat.le_refl _
  ·cases h
 case call c =>
  repeat' (split at h)
  all_goals first
   | (cases h;done)
   | (simp only [Option.map_eq_some_iff] at h;obtain ⟨H2,hH,h⟩:= h;cases h;rw [clearA_len hH];exact Nat.le_refl _)
   | (obtain ⟨_,h2⟩:= cond_some h;cases h2;rw [Bool.cond_eq_ite];split <;> simp [freezeAll_len];done)
   | (obtain ⟨_,h2⟩:= cond_some h;cases h2 <;> simp [setN_eq,freezeAll_len];done)
   | (obtain ⟨_,h2⟩:= cond_some h;cases h2;done)
theorem len_le {H:List (AObj C.S.El)} (hI:Inv C.S B env w H) {x:AV C.S.El} {v:Value} {u:TypeId} {ys:List (C.S.El u)} {f:Bool} (hd:deref H x = .sl u ys f) (hx:Γ C.S env w x v): ys.length≤9223372036854775807:=by
 have key : ∀{v:Value} {u:TypeId} {ys:List (C.S.El u)} {f:Bool},Γ C.S env w (.sl u ys f) v→ys.length≤9223372036854775807:=by
  intro v u ys f h
  cases h with
  | sl _ _ _ b off cap val hf hc hw hv=>exact hc.2
  | slnil=>simp
  | slemp=>simp
 cases x <;> simp only [deref,reduceCtorEq] at hd
 case sl=>cases hd;exact key hx
 case gs i =>
  cases hx with | gs _ a n c hv =>
  have ho:=hI.objs i
  cases hobj:obj H i with
  | row t xs =>
   rw [hobj] at hd ho
   cases hd
   obtain ⟨u',ws,e1,e2,e3⟩:= ho
   rcases e2.2 with ⟨_,h0⟩| ⟨g,cap,cur,fz,bo,_,_,_,h5,h6,_⟩
   ·omega
   ·simp only [maxLen] at h6;omega
  | frozen t xs =>
   rw [hobj] at hd ho
   cases hd
   obtain ⟨u',e1,e2⟩:= ho
   exact key e2
  | _=>rw [hobj] at hd;cases hd
theorem asm_sound (hS:SigOk C.S) {H:List (AObj C.S.El)} (hI:Inv C.S B env w H) {o:Oper} {rho:Operand→AV C.S.El} {e:Operand→Value} (hρ : ∀x∈o.op.operands.toList,Γ C.S env w (rho x) (e x)) {q:Prop} (h:asm (asmP C o rho H) q): q:=by
 unfold asmP at h
 split at h
 ·rename_i c hop
  split at h
  ·rename_i hcal
   split at h
   ·rename_i x hx
    split at h
    ·rename_i u xs f hd
     refine h (len_le hI hd (hρ x ?_))
     rw [hop]
     have:x∈c.args.toList:=by rw [hx];simp
     simp only [Op.operands,Call.operands,hcal];simpa using this
    ·exact h
   ·exact h
  ·exact h
 ·exact h
theorem nilCmp_sound (hS:SigOk C.S) {H:List (AObj C.S.El)} (hI:Inv C.S B env w H) {op:BinOp} {t:TypeId} {x' y':Operand} {x y:AV C.S.El} {vx vy:Value} {neg:Bool} {p:Prop} (h:nilCmp C op t H x y=some (neg,p)) (hx:Γ C.S env w x vx) (hy:Γ C.S env w y vy):
  ∃z:Bool,(z=true→p)∧(do eqGuard op t x' y' vx vy;binOp op t vx vy:Sem Value).run C.P w = .ok (.bool (bif neg then !z else z)) w:=by
 unfold nilCmp at h
 obtain ⟨ht,h⟩:= cond_some h
 obtain ⟨e,he⟩:= isSl_run ht
 split at h
 ·rename_i u xs f hd
  obtain ⟨ad,cap,news,rfl,_,hn,_⟩:= read_sl hS hI hd hx
  split at h
  ·cases hy.unv
   have hq:(Op.equal t (.slice ad xs.length cap) (.slice none 0 0)).run C.P w = .ok ad.isNone w:=by
    unfold Op.equal Op.maxDepth Op.equalIn
    cases ad <;> simp [run_underlying he]
   split at h <;> cases h
   ·exact ⟨ad.isNone,fun hz=>hn (by simpa using hz),by simp [eqGuard,binOp,hq]⟩
   ·exact ⟨ad.isNone,fun hz=>hn (by simpa using hz),by simp [eqGuard,binOp,hq]⟩
  ·cases h
 ·cases h
theorem fzA_sound (hC:CxOk C) {H:List (AObj C.S.El)} (hI:Inv C.S B env w H) {o:Oper} {a:Act} {rho:Operand→AV C.S.El} (hρ : ∀x∈o.op.operands.toList,Γ C.S env w (rho x) (a.eval x)) {r:AV C.S.El}
  (h:fzA C o rho=some r): Does C.P o a w (PureR C B env w H r):= by
 have hS:=hC.sig
 unfold fzA at h
 split at h
 ·rename_i t len parts hop
  rw [hop] at hρ
  obtain ⟨_,h⟩:= cond_some h
  simp only [Option.map_eq_some_iff] at h
  obtain ⟨sg,hsg,h⟩:= h
  cases h
  obtain ⟨us,hrun,hrow,hlen,hbd⟩:= buildSliceA_sound (e:=a.eval) (env:=env) hS hsg (fun x hx=>hρ x (by simpa [Op.operands] using hx))
  obtain ⟨env',hv0,hI',hE',hc⟩:= pure_alloc hI (oneMore_alloc w (.cells us sg.1))
  have hrun':(Instr.buildSlice t len (parts.map fun x=>(x.1,a.eval x.2))).run C.P w = .ok (.slice (some ⟨w.heap.size,0,none⟩) sg.2.length sg.2.length) (w.alloc (.cells us sg.1)):= by simpa using hrun
  refine does_value (v:=.slice (some ⟨w.heap.size,0,none⟩) sg.2.length sg.2.length) (by simp [execOp,hop,hrun']) ⟨env',hv0, ?_,hI',hE'⟩
  have hrow':=hrow.ext hE' hI.fresh
  refine .sl sg.1 sg.2 true w.heap.size 0 sg.2.length (fun k=>us.toList.getD k undef) (fun _=>rfl) ⟨Nat.le_refl _,by omega⟩ (fun k hk=>?_) (fun i j hi=>hrow'.2 i j hi)
  rw [Nat.zero_add]
  have hk':k < us.size:=by have:=hrow.1;simp at this;omega
  exact hc k _ (by simp [List.getD,hk'])
 ·cases h
theorem cond_at {b:Bool} {X Y:Prop} (h:cond b X Y): (b=true∧X)∨(b=false∧Y):= by cases b;exact .inr ⟨rfl,h⟩;exact .inl ⟨rfl,h⟩
theorem lkMap_find {kk:IntKind} {n:Int} {P:Option (AV C.S.El)→Prop}: ∀(ks:List Int) (vs:List (AV C.S.El)) (es:List MapEntry) (i:Nat),lkMap n ks vs P→es.map (·.key)= ks.map (Value.int kk ·)→G2 C.S env w vs (es.map (·.val))→
  (Instr.findNow (.int kk) (.int kk n) es i=some none∧P none)∨∃j v x,Instr.findNow (.int kk) (.int kk n) es i=some (some (j,v))∧P (some x)∧Γ C.S env w x v
 | [],vs,es,i,h,hk,hg=>by
  have:es=[]:= by simpa using hk
  subst this
  cases vs <;> exact .inl ⟨rfl,h⟩
 | k::ks,[],es,i,h,hk,hg=>by
  cases es with
  | nil=>cases hk
  | cons e es=>exact absurd hg.1 (by simp)
 | k::ks,v::vs,es,i,h,hk,hg=>by
  cases es with
  | nil=>cases hk
  | cons e es =>
   simp only [List.map_cons,List.cons.injEq] at hk
   obtain ⟨u,us,hu,g1,g2⟩:= hg.uncons
   simp only [List.map_cons,List.cons.injEq] at hu
   obtain ⟨rfl,rfl⟩:= hu
   have hs:Instr.sameNow (.int kk) (.int kk n) e.key=some (n==k):= by rw [hk.1];simp [Instr.sameNow]
   rcases cond_at h with ⟨hb,h⟩| ⟨hb,h⟩
   ·refine .inr ⟨i,e.val,v, ?_,h,g1⟩
    rw [hb] at hs
    simp [Instr.findNow,hs]
   ·rw [hb] at hs
    have:=lkMap_find ks vs es (i+1) h hk.2 g2
    simpa [Instr.findNow,hs] using this
theorem mapOf_sound {H:List (AObj C.S.El)} (hI:Inv C.S B env w H) {m:AV C.S.El} {vm:Value} {k:IntKind} {ks:List Int} {vs:List (AV C.S.El)} (h:mapOf H m=some (k,ks,vs)) (hm:Γ C.S env w m vm):
  ∃b es ck,vm = .map (some b)∧w.heap[b]? = some (.map es ck)∧es.toList.map (·.key)= ks.map (Value.int k ·)∧G2 C.S env w vs (es.toList.map (·.val)):= by
 unfold mapOf at h
 split at h
 ·rename_i i
  split at h
  ·rename_i k' ks' vs' hobj
   cases h
   cases hm with | gm _ b hv =>
   have ho:=hI.objs i
   rw [hobj] at ho
   obtain ⟨b',es,ck,e1,_,hb,hkeys,hvals⟩:= ho
   rw [hv] at e1;cases e1
   exact ⟨b,es,ck,rfl,hb,hkeys,hvals⟩
  ·cases h
 ·cases h
  cases hm with | fm _ _ _ b es ck hw hp hk hn h =>
  exact ⟨b,es,ck,rfl,hw,hk,by simpa using hn,h⟩
 ·cases h
theorem lookup_run {H:List (AObj C.S.El)} (hI:Inv C.S B env w H) {t:TypeId} {m k:AV C.S.El} {vm vk:Value} {ok:Bool} {n:Int} {ks:List Int} {vs:List (AV C.S.El)} {P:Option (AV C.S.El)→Prop} (h:lookupA C t H m k=some (n,ks,vs)) (hl:lkMap n ks vs P) (hm:Γ C.S env w m vm) (hk:Γ C.S env w k vk):
  ∃r,P r∧∀x,lkRes C t ok r=some x→∃v,(Instr.lookup t vm vk ok).run C.P w = .ok v w∧Γ C.S env w x v:=by
 unfold lookupA at h
 split at h
 ·rename_i ko ks' vs' kk n' kt hmo hkt
  obtain ⟨hc,h⟩:= cond_some h
  cases h
  simp only [Bool.and_eq_true] at hc
  obtain ⟨c1,c2⟩:= hc
  have c1:=eq_of_beq c1
  have c2:=eq_of_beq c2
  subst c1;subst c2
  cases hk.unv
  obtain ⟨b,es,ck,rfl,hb,hkeys,hvals⟩:= mapOf_sound hI hmo hm
  obtain ⟨kT,eT,hmap,hkd⟩:= mapKey_run hkt
  rcases lkMap_find ks vs es.toList 0 hl hkeys hvals with ⟨h1,h2⟩| ⟨j,v,x,h1,h2,h3⟩
  ·refine ⟨none,h2,fun x hx=>?_⟩
   simp only [lkRes,mapElem,hmap,Option.bind_some,Option.bind_eq_some_iff,Option.map_eq_some_iff] at hx
   obtain ⟨z,⟨inf,hi,hz⟩,rfl⟩:= hx
   obtain ⟨zv,hzr,_,inf',hi',hz'⟩:= zeroT_run (C:=C) (t:=eT) (z:=z.cells.toList.map .v) (by simp [zeroT,hi,hz])
   rw [hi] at hi';cases hi'
   rw [hz] at hz';cases hz'
   have hzg:Γ C.S env w (avZ z) z:=by
    cases z <;> first | exact .v _ | exact G2.agg (G2.vmap _)
   have hzv:=hzr w
   cases ok
   ·exact ⟨z,by simp [Instr.lookup,run_underlying hmap,MapKept.run_getObj_map hb,MapKept.run_checkKey hkd (k:=.int ko n) rfl,MapKept.run_findKey hkd h1,hzv,Result.andThen],hzg⟩
   ·exact ⟨.tuple #[z, .bool false],by simp [Instr.lookup,run_underlying hmap,MapKept.run_getObj_map hb,MapKept.run_checkKey hkd (k:=.int ko n) rfl,MapKept.run_findKey hkd h1,hzv,Result.andThen],by
     have:=(G2.single (Γ.v (S:=C.S) (env:=env) (w:=w) (.bool false))).cons hzg
     exact .tup _ _ (by simp) this.2⟩
  ·refine ⟨some x,h2,fun y hy=>?_⟩
   cases ok
   ·cases hy
    exact ⟨v,by simp [Instr.lookup,run_underlying hmap,MapKept.run_getObj_map hb,MapKept.run_checkKey hkd (k:=.int ko n) rfl,MapKept.run_findKey hkd h1,Result.andThen],h3⟩
   ·cases hy
    exact ⟨.tuple #[v, .bool true],by simp [Instr.lookup,run_underlying hmap,MapKept.run_getObj_map hb,MapKept.run_checkKey hkd (k:=.int ko n) rfl,MapKept.run_findKey hkd h1,Result.andThen],by
     have:=(G2.single (Γ.v (S:=C.S) (env:=env) (w:=w) (.bool true))).cons h3
     exact .tup _ _ (by simp) this.2⟩
 ·cases h
theorem lkMap_sel {n:Int} {P:Option (AV C.S.El)→Prop}: ∀(ks:List Int) (vs:List (AV C.S.El)),lkMap n ks vs P→P (lkFind n ks vs)
 | [],vs,h=>by cases vs <;> exact h
 | _::_,[],h=>h
 | k::ks,v::vs,h=>by
  unfold lkMap at h
  unfold lkFind
  revert h
  cases (n==k)
  ·exact lkMap_sel ks vs
  ·exact id
theorem lkMap_self {n:Int}: ∀(ks:List Int) (vs:List (AV C.S.El)),lkMap n ks vs (fun r=>r=lkFind n ks vs)
 | [],vs=>by cases vs <;> rfl
 | _::_,[]=> rfl
 | k::ks,v::vs=>by
  unfold lkMap lkFind
  cases (n==k)
  ·exact lkMap_self ks vs
  ·rfl
theorem lk_eq {st st':St C.S.El} (h:conj (st'.slots.map fun p=>lk st.slots p.1=p.2)): ∀t,lk st'.slots t = .any∨lk st'.slots t=lk st.slots t:=by
 have key : ∀(l:List (Nat×AV C.S.El)),conj (l.map fun p=>lk st.slots p.1=p.2)→∀t,lk l t = .any∨lk l t=lk st.slots t:=by
  intro l
  induction l with
  | nil=>exact fun _ t => .inl rfl
  | cons p l ih =>
   intro hc t
   have h1:lk st.slots p.1=p.2∧conj (l.map fun p=>lk st.slots p.1=p.2):= by
    cases l with
    | nil=>exact ⟨hc.out,trivial⟩
    | cons q l=>exact ⟨hc.1.out,hc.2⟩
   obtain ⟨k,x⟩:= p
   simp only [lk]
   cases hk:Nat.beq k t
   ·rw [cond_false];exact ih h1.2 t
   ·rw [cond_true]
    have:=Nat.eq_of_beq_eq_true hk
    subst this
    exact .inr h1.1.symm
 exact key st'.slots h
theorem lk_mem {n:Nat}: ∀(l:List (Nat×AV C.S.El)),l.all (fun p=>lt2 n p.2)= true→∀t,lt2 n (lk l t)= true∨lk l t = .any
 | [],_,t => .inr rfl
 | (k,x):: l,h,t=>by
  simp only [List.all_cons,Bool.and_eq_true] at h
  simp only [lk]
  cases hk:Nat.beq k t
  ·rw [cond_false];exact lk_mem l h.2 t
  ·rw [cond_true];exact .inl h.1
theorem Γ.lt2w (hS:SigOk C.S) {env':Env} {w':World} {n:Nat} (hv : ∀i v,i < n→env.val i=some v→env'.val i=some v) (hp : ∀b o,env.prot b o→env'.prot b o∧w'.heap[b]? = w.heap[b]?) {x:AV C.S.El} {v:Value} (h:Γ C.S env w x v) (hl:Go.Aw.lt2 n x=true): Γ C.S env' w' x v:=by
 have h0 : ∀{x:AV C.S.El} {v:Value},Γ C.S env w x v→Go.Aw.lt0 n x=true→Γ C.S env' w' x v:=fun h hl=>Γ.lt0 hS hv hp h hl
 have hl0 : ∀{cs:List (AV C.S.El)} {vs:List Value},G2 C.S env w cs vs→cs.all (Go.Aw.lt0 n)= true→G2 C.S env' w' cs vs:=by
  intro cs vs hg ha
  refine ⟨hg.1,fun j=>?_⟩
  have:=hg.2 j
  simp only [List.getD] at this ⊢
  cases hc:cs[j]? with
  | none=>simpa using Γ.any (S:=C.S) _
  | some c=>rw [hc] at this;exact h0 this ((List.all_eq_true.1 ha) c (List.mem_of_getElem? hc))
 have h1 : ∀{x:AV C.S.El} {v:Value},Γ C.S env w x v→Go.Aw.lt1 n x=true→Γ C.S env' w' x v:=by
  intro x v h hl
  cases x
  case agg cs =>
   obtain ⟨vs,rfl,hvs⟩:= h.unagg
   exact G2.agg (hl0 hvs hl)
  case clo f cs =>
   obtain ⟨vs,rfl,hvs⟩:= h.unclo
   have:=hl0 hvs hl
   exact .clo f cs vs (by simpa using this.1) this.2
  all_goals (simp only [Go.Aw.lt1] at hl;exact h0 h hl)
 cases x
 case tup cs =>
  obtain ⟨vs,rfl,hvs⟩:= h.untup
  refine .tup cs vs (by simpa using hvs.1) fun j=>?_
  have:=hvs.2 j
  simp only [List.getD] at this ⊢
  cases hc:cs[j]? with
  | none=>simpa using Γ.any (S:=C.S) _
  | some c=>rw [hc] at this;exact h1 this ((List.all_eq_true.1 hl) c (List.mem_of_getElem? hc))
 case gd g x =>
  cases h with | gd _ _ _ k1 k2=>exact .gd g x v (fun hg=>h1 (k1 hg) hl) k2
 all_goals (simp only [Go.Aw.lt2] at hl;exact h1 h hl)
theorem Γ.lt2 (hS:SigOk C.S) {env':Env} {n:Nat} (hv : ∀i v,i < n→env.val i=some v→env'.val i=some v) (hp : ∀b o,env.prot b o→env'.prot b o) {x:AV C.S.El} {v:Value} (h:Γ C.S env w x v) (hl:Go.Aw.lt2 n x=true): Γ C.S env' w x v:=h.lt2w hS hv (fun b o hpp=>⟨hp b o hpp,rfl⟩) hl
theorem objLe_get : ∀(H H':List (AObj C.S.El)),objLe H H'→H'.length≤H.length∧∀i,obj H' i = .gone∨obj H' i=obj H i
 | H,[],_=>⟨by simp,fun i => .inl (by simp [obj_nth])⟩
 | [],o::l,h=>h.elim
 | o::l,o'::l',h=>by
  have h2:(o' = .gone∨o=o')∧objLe l l':=by
   cases o' with
   | gone=>exact ⟨.inl rfl,h⟩
   | _=>exact ⟨.inr h.1,h.2⟩
  obtain ⟨k1,k2⟩:= objLe_get l l' h2.2
  refine ⟨by simp;omega,fun i=>?_⟩
  cases i with
  | zero =>
   rcases h2.1 with h | h
   ·exact .inl (by simp [obj_nth,h])
   ·exact .inr (by simp [obj_nth,h])
  | succ i=>simpa [obj_nth] using k2 i
theorem Rel.le (hS:SigOk C.S) {st st':St C.S.El} {a:Act} (h:Rel C B env st a w) (hle:stLe st st'): ∃env',Rel C B env' st' a w∧Ext B st'.lo env w env' w∧st'.lo=st.lo:=by
 obtain ⟨h1,h2,h3,h4,h5⟩:= hle
 simp only [Bool.and_eq_true,Nat.ble_eq] at h5
 obtain ⟨⟨h5,h6⟩,h7⟩:= h5
 obtain ⟨k1,k2⟩:= objLe_get _ _ h4
 let n:=st'.objs.length
 let env':Env:=⟨fun i=>if i < n then env.val i else none,env.prot⟩
 have hv : ∀i v,i < n→env.val i=some v→env'.val i=some v:=fun i v hi hv=>by simp only [env'];rw [if_pos hi];exact hv
 have hp : ∀b o,env.prot b o→env'.prot b o:=fun _ _ h=>h
 have hv' : ∀i v,env'.val i=some v→env.val i=some v∧i < n:=fun i v h=>by
  simp only [env'] at h
  by_cases hi:i < n
  ·rw [if_pos hi] at h;exact ⟨h,hi⟩
  ·rw [if_neg hi] at h;cases h
 have hobj : ∀i,ltO n (obj st'.objs i)= true:=by
  intro i
  rw [obj_nth]
  cases hc:st'.objs[i]? with
  | none=>rfl
  | some o=>exact (List.all_eq_true.1 h6) o (List.mem_of_getElem? hc)
 have hlive : ∀i,live (obj st'.objs i)= true→obj st'.objs i=obj st.objs i:=fun i hl=>by
  rcases k2 i with h | h
  ·rw [h] at hl;cases hl
  ·exact h
 refine ⟨env',⟨h.size.trans h2,h.defers,fun t=>?_,⟨fun i=>?_,fun i v b hl e1 e2 o hpp=>?_,fun i j u v b hl hl' e1 e2 e3 e4=>?_,h.inv.inheap,fun i v e=>(hv' i v e).2,fun g=>?_,h.inv.base⟩,h7⟩,⟨Below.refl _ _,fun i v hi e=>hv i v (Nat.lt_of_lt_of_le hi h7) e,hp,fun _ _ _=>rfl,fun _ _ h => .inl h⟩,h1.symm⟩
 ·rcases lk_mem st'.slots h5 t with hl | hl
  ·rcases lk_eq h3 t with he | he
   ·rw [he];exact .any _
   ·have:=h.slots t
    rw [←he] at this
    exact this.lt2 hS hv hp hl
  ·rw [hl];exact .any _
 ·rcases k2 i with he | he
  ·rw [he];trivial
  ·have ho:=h.inv.objs i
   have hlt:=hobj i
   rw [←he] at ho
   by_cases hi:i < n
   ·have e1:env'.val i=env.val i:=by simp only [env'];rw [if_pos hi]
    rw [e1]
    cases hc:obj st'.objs i with
    | cells cs =>
     rw [hc] at ho hlt
     obtain ⟨b,vs,T,q1,q2,q3,q4⟩:= ho
     refine ⟨b,vs,T,q1,q2,q3,q4.1,fun j=>?_⟩
     have:=q4.2 j
     simp only [List.getD] at this ⊢
     cases hcj:cs[j]? with
     | none=>simpa using Γ.any (S:=C.S) _
     | some c =>
      rw [hcj] at this
      have hc1:=(List.all_eq_true.1 hlt) c (List.mem_of_getElem? hcj)
      refine Γ.lt2 hS hv hp this ?_
      cases c <;> simp_all [Go.Aw.lt1,Go.Aw.lt2,Go.Aw.lt0]
    | row t xs =>
     rw [hc] at ho
     obtain ⟨u,ws,q1,q2,q3⟩:= ho
     refine ⟨u,ws,q1,q2,fun i j hi hj=>?_⟩
     have hm:=q3 i j hi hj
     refine Γ.lt0 hS hv (fun b o hpp=>⟨hp b o hpp,rfl⟩) hm ?_
     have hl:=hS.len t (xs.getD i (C.S.dflt t))
     have hmem:(C.S.cell t (xs.getD i (C.S.dflt t))).getD j .any∈C.S.cell t (xs.getD i (C.S.dflt t)):= by
      have hgm : ∀(cs:List (AV C.S.El)) j,j < cs.length→cs.getD j .any∈cs:=fun cs j hj=>by rw [List.getD,List.getElem?_eq_getElem hj];exact List.getElem_mem _
      exact hgm _ _ (by omega)
     have:=(hS.flat t _ _ hmem).1
     revert this
     cases (C.S.cell t (xs.getD i (C.S.dflt t))).getD j .any <;> simp [Go.Aw.lt0]
    | frozen t xs =>
     rw [hc] at ho
     obtain ⟨u,q1,q2⟩:= ho
     exact ⟨u,q1,Γ.lt0 hS hv (fun b o hpp=>⟨hp b o hpp,rfl⟩) q2 rfl⟩
    | mp k ks vs =>
     rw [hc] at ho hlt
     obtain ⟨b,es,ck,q1,q2,q3,q4,q5⟩:= ho
     refine ⟨b,es,ck,q1,q2,q3,q4,q5.1,fun j=>?_⟩
     have:=q5.2 j
     simp only [List.getD] at this ⊢
     cases hcj:vs[j]? with
     | none=>simpa using Γ.any (S:=C.S) _
     | some c =>
      rw [hcj] at this
      have hc1:=(List.all_eq_true.1 hlt) c (List.mem_of_getElem? hcj)
      refine Γ.lt2 hS hv hp this ?_
      cases c <;> simp_all [Go.Aw.lt1,Go.Aw.lt2,Go.Aw.lt0]
    | gone=>trivial
   ·have:obj st'.objs i = .gone:=by rw [obj_nth,List.getElem?_eq_none (by omega)];rfl
    rw [this];trivial
 ·have:=hlive i hl
  rw [this] at hl
  exact h.inv.free i v b hl (hv' i v e1).1 e2 o hpp
 ·have q1:=hlive i hl
  have q2:=hlive j hl'
  rw [q1] at hl
  rw [q2] at hl'
  exact h.inv.apart i j u v b hl hl' (hv' i u e1).1 (hv' j v e2).1 e3 e4
 ·exact (h.inv.glob g).lt2 hS (n:=0) (fun i v hi=>by omega) hp (hS.gl g)
theorem posOf_spec : ∀(i:Nat) (sg:List Nat) (k:Nat),posOf i sg=some k→sg[k]? = some i
 | i,[],k,h=>by cases h
 | i,j::l,k,h=>by
  unfold posOf at h
  cases hb:Nat.beq i j
  ·rw [hb,cond_false] at h
   simp only [Option.map_eq_some_iff] at h
   obtain ⟨k',h1,rfl⟩:= h
   simpa using posOf_spec i l k' h1
  ·rw [hb,cond_true] at h
   cases h
   have:=Nat.eq_of_beq_eq_true hb
   subst this;rfl
def envR (env:Env) (lo:Nat) (sg:List Nat): Env:=⟨fun k=>if k < lo then env.val k else (sg[k - lo]?).bind env.val,env.prot⟩
theorem renI_val {lo:Nat} {sg:List Nat} {i k:Nat} (h:renI lo sg i=some k): (envR env lo sg).val k=env.val i:=by
 unfold renI at h
 cases hb:Nat.blt i lo
 ·rw [hb,cond_false] at h
  simp only [Option.map_eq_some_iff] at h
  obtain ⟨j,h1,rfl⟩:= h
  simp only [envR]
  rw [if_neg (by omega),show lo+j - lo=j by omega,posOf_spec i sg j h1]
  rfl
 ·rw [hb,cond_true] at h
  cases h
  simp only [Nat.blt,Nat.ble_eq] at hb
  simp only [envR]
  rw [if_pos (by omega)]
theorem ren0_sound (hS:SigOk C.S) {lo:Nat} {sg:List Nat} {x:AV C.S.El} {v:Value} (h:Γ C.S env w x v): Γ C.S (envR env lo sg) w (ren0 lo sg x) v:=by
 have plain:Go.Aw.lt0 0 x=true→Γ C.S (envR env lo sg) w x v:=fun hl=>Γ.lt0 hS (n:=0) (env:=env) (env':=envR env lo sg) (fun i v hi=>by omega) (fun b o hp=>⟨hp,rfl⟩) h hl
 cases x with
 | gs i =>
  cases h with | gs _ a n c hv =>
  simp only [ren0]
  split
  ·rename_i k hk;exact .gs k a n c ((renI_val hk).trans hv)
  ·exact .any _
 | ref i o =>
  cases h with | ref _ _ b hv =>
  simp only [ren0]
  split
  ·rename_i k hk;exact .ref k o b ((renI_val hk).trans hv)
  ·exact .any _
 | rg t i j o =>
  cases h with | rg _ _ _ _ b n cap bo hv =>
  simp only [ren0]
  split
  ·rename_i k hk;exact .rg t k j o b n cap bo ((renI_val hk).trans hv)
  ·exact .any _
 | agg | tup | clo | gd | gw | gm | fm=>exact .any _
 | any=>exact .any _
 | v x=>exact plain rfl
 | sl t xs f=>exact plain rfl
 | rp t y o=>exact plain rfl
 | ra t xs=>exact plain rfl
theorem G2.mapR {env':Env} {f:AV C.S.El→AV C.S.El} (hf : ∀x v,Γ C.S env w x v→Γ C.S env' w (f x) v): ∀{cs:List (AV C.S.El)} {vs:List Value},G2 C.S env w cs vs→G2 C.S env' w (cs.map f) vs
 | [],vs,h=>by
  have:vs=[]:= List.eq_nil_of_length_eq_zero h.1
  subst this;exact .nil
 | c::cs,vs,h=>by
  obtain ⟨u,us,rfl,h1,h2⟩:= h.uncons
  exact (G2.mapR hf h2).cons (hf _ _ h1)
theorem ren1_sound (hS:SigOk C.S) {lo:Nat} {sg:List Nat} {x:AV C.S.El} {v:Value} (h:Γ C.S env w x v): Γ C.S (envR env lo sg) w (ren1 lo sg x) v:=by
 cases x with
 | agg cs =>
  obtain ⟨vs,rfl,hvs⟩:= h.unagg
  exact G2.agg (G2.mapR (fun _ _ h=>ren0_sound hS h) hvs)
 | clo f cs =>
  obtain ⟨vs,rfl,hvs⟩:= h.unclo
  have:=G2.mapR (fun _ _ h=>ren0_sound (lo:=lo) (sg:=sg) hS h) hvs
  exact .clo f _ vs (by simpa using this.1) this.2
 | _=>exact ren0_sound hS h
theorem ren2_sound (hS:SigOk C.S) {lo:Nat} {sg:List Nat} {x:AV C.S.El} {v:Value} (h:Γ C.S env w x v): Γ C.S (envR env lo sg) w (ren2 lo sg x) v:=by
 cases x with
 | tup cs =>
  obtain ⟨vs,rfl,hvs⟩:= h.untup
  have:=G2.mapR (fun _ _ h=>ren1_sound (lo:=lo) (sg:=sg) hS h) hvs
  exact .tup _ vs (by simpa using this.1) this.2
 | gd g x =>
  cases h with | gd _ _ _ k1 k2=>exact .gd g _ v (fun hg=>ren1_sound hS (k1 hg)) k2
 | _=>exact ren1_sound hS h
theorem lk_map (f:AV C.S.El→AV C.S.El) (hf:f .any = .any): ∀(l:List (Nat×AV C.S.El)) (t:Nat),lk (l.map fun p=>(p.1,f p.2)) t=f (lk l t)
 | [],t=>by simp [lk,hf]
 | (k,x):: l,t=>by
  simp only [List.map_cons,lk]
  cases Nat.beq k t
  ·rw [cond_false,cond_false];exact lk_map f hf l t
  ·rw [cond_true,cond_true]
theorem renO_sound (hS:SigOk C.S) {lo:Nat} {sg:List Nat} {o:AObj C.S.El} {v:Option Value} (h:ObjOk C.S env w B v o): ObjOk C.S (envR env lo sg) w B v (renO lo sg o):= by
 cases o with
 | cells cs =>
  obtain ⟨b,vs,T,h1,h2,h3,h4⟩:= h
  exact ⟨b,vs,T,h1,h2,h3,G2.mapR (fun _ _ h=>ren1_sound hS h) h4⟩
 | row t xs =>
  obtain ⟨u,ws,h1,h2,h3⟩:= h
  refine ⟨u,ws,h1,h2,fun i j hi hj=>Γ.lt0 hS (n:=0) (env:=env) (env':=envR env lo sg) (fun i v hi=>by omega) (fun b o hp=>⟨hp,rfl⟩) (h3 i j hi hj) ?_⟩
  have hl:=hS.len t (xs.getD i (C.S.dflt t))
  have hmem:(C.S.cell t (xs.getD i (C.S.dflt t))).getD j .any∈C.S.cell t (xs.getD i (C.S.dflt t)):= by
   have hgm : ∀(cs:List (AV C.S.El)) j,j < cs.length→cs.getD j .any∈cs:=fun cs j hj=>by rw [List.getD,List.getElem?_eq_getElem hj];exact List.getElem_mem _
   exact hgm _ _ (by omega)
  exact (hS.flat t _ _ hmem).1
 | frozen t xs =>
  obtain ⟨u,h1,h2⟩:= h
  exact ⟨u,h1,Γ.lt0 hS (n:=0) (env:=env) (env':=envR env lo sg) (fun i v hi=>by omega) (fun b o hp=>⟨hp,rfl⟩) h2 rfl⟩
 | mp k ks vs =>
  obtain ⟨b,es,ck,h1,h2,h3,h4,h5⟩:= h
  exact ⟨b,es,ck,h1,h2,h3,h4,G2.mapR (fun _ _ h=>ren1_sound hS h) h5⟩
 | gone=>trivial
theorem live_renO {lo:Nat} {sg:List Nat} (o:AObj C.S.El): live (renO lo sg o)= live o:=by cases o <;> rfl
theorem nodupB_spec : ∀{l:List Nat},nodupB l=true→l.Nodup
 | [],_=>List.nodup_nil
 | i::l,h=>by
  simp only [nodupB,Bool.and_eq_true,Bool.not_eq_true'] at h
  refine List.nodup_cons.2 ⟨fun hm=>?_,nodupB_spec h.2⟩
  have:=List.contains_iff_mem.2 hm
  rw [h.1] at this;cases this
theorem Rel.ren (hS:SigOk C.S) {st:St C.S.El} {a:Act} (h:Rel C B env st a w) {sg:List Nat} (hs:sgOk st.lo st.objs.length sg=true): ∃env',Rel C B env' (renSt sg st) a w∧Ext B st.lo env w env' w:=by
 simp only [sgOk,Bool.and_eq_true,List.all_eq_true,Nat.ble_eq,Nat.blt] at hs
 obtain ⟨hn,hr⟩:= hs
 have hnd:=nodupB_spec hn
 have hlo:=h.lo
 have hv : ∀k u,(envR env st.lo sg).val k=some u→(k < st.lo∧env.val k=some u)∨∃i,st.lo≤k∧sg[k - st.lo]? = some i∧env.val i=some u:=by
  intro k u hk
  simp only [envR] at hk
  by_cases hc:k < st.lo
  ·rw [if_pos hc] at hk;exact .inl ⟨hc,hk⟩
  ·rw [if_neg hc] at hk
   obtain ⟨i,h1,h2⟩:= Option.bind_eq_some_iff.1 hk
   exact .inr ⟨i,by omega,h1,h2⟩
 have ho : ∀k,obj (renSt sg st).objs k=if k < st.lo then renO st.lo sg (obj st.objs k) else match sg[k - st.lo]? with | some i=>renO st.lo sg (obj st.objs i)| none => .gone:=by
  intro k
  simp only [renSt,obj_nth,List.getElem?_append,List.length_map,List.length_take,Nat.min_eq_left hlo,List.getElem?_map]
  by_cases hc:k < st.lo
  ·rw [if_pos hc,if_pos hc,List.getElem?_take,if_pos hc,List.getElem?_eq_getElem (by omega)]
   rfl
  ·rw [if_neg hc,if_neg hc]
   cases sg[k - st.lo]? <;> rfl
 have hmem : ∀j i,sg[j]? = some i→st.lo≤i∧i < st.objs.length:=fun j i hj=>by
  have:=hr i (List.mem_of_getElem? hj);omega
 have hlive : ∀k u,(envR env st.lo sg).val k=some u→live (obj (renSt sg st).objs k)= true→∃i,env.val i=some u∧live (obj st.objs i)= true∧((k < st.lo∧i=k)∨(st.lo≤k∧sg[k - st.lo]? = some i)):= by
  intro k u hk hl
  rw [ho] at hl
  rcases hv k u hk with ⟨h1,h2⟩| ⟨i,h1,h2,h3⟩
  ·rw [if_pos h1,live_renO] at hl
   exact ⟨k,h2,hl, .inl ⟨h1,rfl⟩⟩
  ·rw [if_neg (by omega),h2] at hl
   simp only [live_renO] at hl
   exact ⟨i,h3,hl, .inr ⟨h1,h2⟩⟩
 refine ⟨envR env st.lo sg,⟨h.size,h.defers,fun t=>?_,⟨fun k=>?_,fun k u b hl e1 e2 o hp=>?_,fun j k u u' b hl hl' e1 e2 e3 e4=>?_,h.inv.inheap,fun k u hk=>?_,fun g=>?_,h.inv.base⟩, ?_⟩,
  ⟨Below.refl _ _,fun i v hi hv=>by simp only [envR];rw [if_pos hi];exact hv,fun _ _ h=>h,fun _ _ _=>rfl,fun _ _ h => .inl h⟩⟩
 ·simp only [renSt]
  rw [lk_map (ren2 st.lo sg) rfl]
  exact ren2_sound hS (h.slots t)
 ·rw [ho]
  by_cases hc:k < st.lo
  ·rw [if_pos hc]
   have e:(envR env st.lo sg).val k=env.val k:=by simp only [envR];rw [if_pos hc]
   rw [e]
   exact renO_sound hS (h.inv.objs k)
  ·rw [if_neg hc]
   cases hk:sg[k - st.lo]? with
   | none=>trivial
   | some i =>
    have e:(envR env st.lo sg).val k=env.val i:=by simp only [envR];rw [if_neg hc,hk];rfl
    rw [e]
    exact renO_sound hS (h.inv.objs i)
 ·obtain ⟨i,q1,q2,_⟩:= hlive k u e1 hl
  exact h.inv.free i u b q2 q1 e2 o hp
 ·obtain ⟨i,q1,q2,q3⟩:= hlive j u e1 hl
  obtain ⟨i',q1',q2',q3'⟩:= hlive k u' e2 hl'
  have:=h.inv.apart i i' u u' b q2 q2' q1 q1' e3 e4
  subst this
  rcases q3 with ⟨a1,a2⟩| ⟨a1,a2⟩ <;> rcases q3' with ⟨b1,b2⟩| ⟨b1,b2⟩
  ·omega
  ·have:=hmem _ _ b2;omega
  ·have:=hmem _ _ a2;omega
  ·have h1:=List.getElem?_eq_some_iff.1 a2
   have h2:=List.getElem?_eq_some_iff.1 b2
   have:=(List.getElem_inj (h₀:=h1.1) (h₁:=h2.1) hnd).1 (h1.2.trans h2.2.symm)
   omega
 ·simp only [renSt,List.length_append,List.length_map,List.length_take,Nat.min_eq_left hlo]
  rcases hv k u hk with ⟨h1,_⟩| ⟨i,h1,h2,_⟩
  ·omega
  ·have:=(List.getElem?_eq_some_iff.1 h2).1;omega
 ·exact Γ.lt2 hS (n:=0) (env:=env) (env':=envR env st.lo sg) (fun i v hi=>by omega) (fun _ _ h=>h) (h.inv.glob g) (hS.gl g)
 ·simp only [renSt,List.length_append,List.length_map,List.length_take,Nat.min_eq_left hlo];omega
theorem Rel.upg1 {st:St C.S.El} {a:Act} (h:Rel C B env st a w) (u:Up): ∃env',Rel C B env' (Go.Aw.upg1 u st) a w∧Ext B st.lo env w env' w∧(Go.Aw.upg1 u st).lo=st.lo:=by
 have same : ∃env',Rel C B env' st a w∧Ext B st.lo env w env' w∧st.lo=st.lo:=⟨env,h,Ext.refl _ _ _ _,rfl⟩
 have hlo:=h.lo
 have push:=fun (t:TypeId)=> push_obj (w':=w) (u:=.slice none 0 0) (o:=.row t []) h.inv (Below.refl _ _) (fun _ _ _=>rfl) (fun _ _ _ _ _ _=>rfl) (fun b hb=>by cases hb)
  ⟨_,[],rfl,⟨by simp, .inl ⟨rfl,rfl⟩⟩,fun i j hi=>by simp at hi⟩
 cases u with
 | slot d t =>
  simp only [Go.Aw.upg1]
  split
  ·rename_i hd
   obtain ⟨h1,h2⟩:= push t
   refine ⟨_,⟨h.size,h.defers,fun k=>?_,h1,by simp;omega⟩,h2.mono hlo,rfl⟩
   simp only [lk]
   cases hk:Nat.beq d k
   ·rw [cond_false];exact (h.slots k).ext h2 h.inv.fresh
   ·rw [cond_true]
    have:=Nat.eq_of_beq_eq_true hk
    subst this
    have hs:=h.slots d
    rw [hd] at hs
    rw [hs.unv]
    exact .gs _ none 0 0 (by simp)
  ·exact same
 | cell i j t =>
  simp only [Go.Aw.upg1]
  split
  ·rename_i cs hobj
   split
   ·rename_i hj
    obtain ⟨h1,h2⟩:= push t
    have hi:i < st.objs.length:=obj_lt (by rw [hobj];simp)
    rw [nth_eq] at hj
    have hjl:j < cs.length:=(List.getElem?_eq_some_iff.1 hj).1
    have ho : ∀k,obj (setN st.objs i (.cells (setN cs j (.gs st.objs.length)))++ [.row t []]) k=if i=k then .cells (setN cs j (.gs st.objs.length)) else obj (st.objs ++ [.row t []]) k:=by
     intro k
     have e:setN st.objs i (AObj.cells (setN cs j (.gs st.objs.length)))++ [.row t []]= setN (st.objs ++ [.row t []]) i (.cells (setN cs j (.gs st.objs.length))):= by
      simp only [setN_eq]
      rw [List.set_append_left _ _ hi]
     rw [e]
     exact obj_set _ _ _ _ (by simp;omega)
    have hlv : ∀k,live (obj (setN st.objs i (.cells (setN cs j (.gs st.objs.length)))++ [.row t []]) k)= true→live (obj (st.objs ++ [.row t []]) k)= true:=by
     intro k hk
     rw [ho] at hk
     by_cases he:i=k
     ·subst he
      rw [obj_nth,List.getElem?_append_left hi,←obj_nth,hobj];rfl
     ·rw [if_neg he] at hk;exact hk
    refine ⟨_,⟨h.size,h.defers,fun k=>(h.slots k).ext h2 h.inv.fresh,⟨fun k=>?_,fun k v b hl=>h1.free k v b (hlv k hl),fun k k' v v' b hl hl'=>h1.apart k k' v v' b (hlv k hl) (hlv k' hl'),h1.inheap,fun k v hk=>by have:=h1.fresh k v hk;simp [setN_eq] at this ⊢;omega,h1.glob,h1.base⟩,by simp [setN_eq];omega⟩,h2.mono hlo,rfl⟩
    rw [ho]
    by_cases he:i=k
    ·subst he
     rw [if_pos rfl]
     have hok:=h1.objs i
     rw [obj_nth,List.getElem?_append_left hi,←obj_nth,hobj] at hok
     obtain ⟨b,vs,T,q1,q2,q3,q4⟩:= hok
     refine ⟨b,vs,T,q1,q2,q3,by simp [setN_eq,q4.1],fun k=>?_⟩
     rw [setN_eq]
     have hk:=q4.2 k
     by_cases hjk:j=k
     ·subst hjk
      have hj0:=q4.2 j
      simp only [List.getD,hj,Option.getD_some] at hj0
      have:=hj0.unv
      simp only [List.getD,List.getElem?_set,hjl,if_true,Option.getD_some]
      rw [this]
      exact .gs _ none 0 0 (by simp)
     ·simp only [List.getD,List.getElem?_set,hjk,if_false] at hk ⊢
      exact hk
    ·rw [if_neg he];exact h1.objs k
   ·exact same
  ·exact same
 | drop i j =>
  simp only [Go.Aw.upg1]
  split
  ·rename_i cs hobj
   have hi:i < st.objs.length:=obj_lt (by rw [hobj];simp)
   have ho:=fun k=>obj_set st.objs i k (.cells (setN cs j .any)) hi
   have hlv : ∀k,live (obj (setN st.objs i (.cells (setN cs j .any))) k)= true→live (obj st.objs k)= true:=by
    intro k hk
    rw [ho] at hk
    by_cases he:i=k
    ·subst he;rw [hobj];rfl
    ·rw [if_neg he] at hk;exact hk
   refine ⟨env,⟨h.size,h.defers,h.slots,⟨fun k=>?_,fun k v b hl=>h.inv.free k v b (hlv k hl),fun k k' v v' b hl hl'=>h.inv.apart k k' v v' b (hlv k hl) (hlv k' hl'),h.inv.inheap,fun k v hk=>by rw [setN_eq,List.length_set];exact h.inv.fresh k v hk,h.inv.glob,h.inv.base⟩,by rw [setN_eq,List.length_set];exact hlo⟩,Ext.refl _ _ _ _,rfl⟩
   rw [ho]
   by_cases he:i=k
   ·subst he
    rw [if_pos rfl]
    have hok:=h.inv.objs i
    rw [hobj] at hok
    obtain ⟨b,vs,T,q1,q2,q3,q4⟩:= hok
    refine ⟨b,vs,T,q1,q2,q3,by simp [setN_eq,q4.1],fun k=>?_⟩
    rw [setN_eq]
    have hk:=q4.2 k
    by_cases hjk:j=k
    ·subst hjk
     by_cases hl:j < cs.length
     ·simp only [List.getD,List.getElem?_set,hl,if_true,Option.getD_some];exact .any _
     ·have e:(cs.set j AV.any).getD j .any = .any:=by rw [List.getD,List.getElem?_eq_none (by simp;omega)];rfl
      rw [e];exact .any _
    ·simp only [List.getD,List.getElem?_set,hjk,if_false] at hk ⊢
     exact hk
   ·rw [if_neg he];exact h.inv.objs k
  ·exact same
theorem Rel.upg {a:Act}: ∀(ups:List Up) {env:Env} {st:St C.S.El},Rel C B env st a w→∃env',Rel C B env' (Go.Aw.upg ups st) a w∧Ext B st.lo env w env' w∧(Go.Aw.upg ups st).lo=st.lo
 | [],env,st,h=>⟨env,h,Ext.refl _ _ _ _,rfl⟩
 | u::l,env,st,h=>by
  obtain ⟨e1,h1,x1,l1⟩:= h.upg1 u
  obtain ⟨e2,h2,x2,l2⟩:= Rel.upg l h1
  exact ⟨e2,h2,x1.trans (by rw [l1] at x2;exact x2),l2.trans l1⟩
theorem Rel.ge (hS:SigOk C.S) {st st':St C.S.El} {a:Act} (h:Rel C B env st a w) (hge:stGe st st'): ∃env',Rel C B env' st' a w∧Ext B st'.lo env w env' w∧st'.lo=st.lo:=by
 obtain ⟨ups,sg,h1,h2⟩:= hge
 obtain ⟨e1,r1,x1,l1⟩:= Rel.upg ups h
 obtain ⟨e2,r2,x2⟩:= r1.ren hS (sg:=sg) (by rw [l1];exact h1)
 obtain ⟨e3,r3,x3,l3⟩:= r2.le hS h2
 have l3':st'.lo=st.lo:=l3.trans l1
 exact ⟨e3,r3,by rw [l3'];rw [l1] at x2;rw [l3'] at x3;exact (x1.trans x2).trans x3,l3'⟩
end
section
variable {El:TypeId→Type}
theorem conj_of : ∀{ps:List Prop},(∀p∈ps,p)→conj ps
 | [],_=>trivial
 | [p],h=>⟨h p (List.mem_singleton.2 rfl)⟩
 | p::q::l,h=>⟨⟨h p (List.mem_cons_self ..)⟩,conj_of fun x hx=>h x (List.mem_cons_of_mem _ hx)⟩
theorem objLe_refl : ∀H:List (AObj El),objLe H H
 | []=> trivial
 | .gone::l=>objLe_refl l
 | .cells _::l=>⟨rfl,objLe_refl l⟩
 | .row _ _::l=>⟨rfl,objLe_refl l⟩
 | .frozen _ _::l=>⟨rfl,objLe_refl l⟩
 | .mp _ _ _::l=>⟨rfl,objLe_refl l⟩
theorem keepS_le (keep:List Nat) (s:St El) (h:okB (keepS keep s)= true): stLe s (keepS keep s):= by
 refine ⟨rfl,rfl,conj_of ?_,objLe_refl _,h⟩
 intro p hp
 simp only [keepS,List.map_map,List.mem_map] at hp
 obtain ⟨k,_,rfl⟩:= hp
 rfl
theorem headS_ge (keep:List Nat) (ups:List Up) (s:St El) (h:okH keep ups s=true): stGe s (headS keep ups s):= by
 simp only [okH,Bool.and_eq_true] at h
 exact ⟨ups,_,h.1,keepS_le _ _ h.2⟩
end
section
variable {C:Cx}
theorem retK_rel (hS:SigOk C.S) {B:Nat} {env:Env} {w:World} {lo:Nat} {r:AV C.S.El} {H:List (AObj C.S.El)} {K:AV C.S.El→List (AObj C.S.El)→Prop} {v:Value} (h:retK C lo r H K) (hlo:lo≤H.length) (hg:Γ C.S env w r v) (hI:Inv C.S B env w H):
  ∃env' r' H',K r' H'∧Γ C.S env' w r' v∧Inv C.S B env' w H'∧Ext B lo env w env' w∧lo≤H'.length:=by
 unfold retK at h
 split at h
 ·rename_i hb
  simp only [Bool.and_eq_true,trOk] at hb
  have hr:Rel C B env (trS lo r H) {tmps:=#[v],defers:=[]} w:=by
   refine ⟨rfl,rfl,fun t=>?_,hI,hlo⟩
   simp only [trS,lk]
   cases t with
   | zero=>exact hg
   | succ t=>exact .any _
  obtain ⟨env2,hr2,hE2,hl2⟩:= hr.ge hS (headS_ge [0] [] _ hb.2.2)
  refine ⟨env2,_,_,h, ?_,hr2.inv,by simpa [trS,headS,keepS,renSt,upg] using hE2,by simpa [trS,headS,keepS,renSt,upg] using hr2.lo⟩
  simpa using hr2.slots 0
 ·exact ⟨env,r,H,h,hg,hI,Ext.refl _ _ _ _,hlo⟩
end
section
variable {C:Cx}
theorem lwm_le (f:FuncId) (n:Nat): lwm C f n≤n:=by
 unfold lwm
 cases C.lw f with
 | none=>exact Nat.le_refl _
 | some m =>
  dsimp only
  cases h:Nat.ble m n
  ·exact Nat.le_refl _
  ·exact Nat.le_of_ble_eq_true h
theorem Inv.prot1 {B:Nat} {env:Env} {w:World} {H:List (AObj C.S.El)} (hI:Inv C.S B env w H) (c:Nat) (h1:B≤c) (h2:c < w.heap.size) (h3 : ∀j u,live (obj H j)= true→env.val j=some u→blkV u≠some c):
  Inv C.S B ⟨env.val,fun b o=>env.prot b o∨b=c⟩ w H∧∀N,Ext B N env w ⟨env.val,fun b o=>env.prot b o∨b=c⟩ w:=by
 have hE : ∀N,Ext B N env w ⟨env.val,fun b o=>env.prot b o∨b=c⟩ w:=fun N=>⟨Below.refl _ _,fun _ _ _ h=>h,fun _ _ h => .inl h,fun _ _ _=>rfl,fun b o h=>h.imp id fun h=>by rw [h];exact h1⟩
 refine ⟨hI.ext (hE _) (fun _ _ h=>h) (fun _ _ _ _ _ _=>rfl) (fun i u b o e1 e2 e3 hp=>?_) (fun b o hp=>?_),hE⟩
 ·rcases hp with hp | rfl
  ·exact hp
  ·exact absurd e3 (h3 i u e1 e2)
 ·rcases hp with hp | rfl
  ·exact hI.inheap b o hp
  ·exact h2
theorem Rel.frz1 (hS:SigOk C.S) {B:Nat} {env:Env} {w:World} {st:St C.S.El} {a:Act} (h:Rel C B env st a w) (m:Nat) (p:Nat×TypeId): ∃env',Rel C B env' (frz1 C m st p) a w∧(∀N,Ext B N env w env' w)∧(Go.Aw.frz1 C m st p).lo=st.lo:=by
 unfold Go.Aw.frz1
 split
 case h_2=>exact ⟨env,h,fun N=>Ext.refl _ _ _ _,rfl⟩
 rename_i i hlk
 split
 case h_2=>exact ⟨env,h,fun N=>Ext.refl _ _ _ _,rfl⟩
 rename_i cs hob
 split
 case h_2=>exact ⟨env,h,fun N=>Ext.refl _ _ _ _,rfl⟩
 rename_i x hd
 cases hm:Nat.ble m i
 ·exact ⟨env,h,fun N=>Ext.refl _ _ _ _,rfl⟩
 have hsl:=h.slots p.1
 rw [hlk] at hsl
 obtain ⟨b,vs,T,e1,e2,e3,e4⟩: ObjOk C.S env w B (env.val i) (.cells cs):= hob ▸ h.inv.objs i
 have hi:i < st.objs.length:=h.inv.fresh i _ e1
 have hlive:live (obj st.objs i)= true:=by rw [hob];rfl
 have hforget:=h.inv.forget i
 have hbs:b < w.heap.size:=by
  rcases Nat.lt_or_ge b w.heap.size with q | q
  ·exact q
  ·rw [Array.getElem?_eq_none q] at e3;cases e3
 obtain ⟨hI,hE⟩:= hforget.prot1 b e2 hbs (fun j u q1 q2 q3=>by
  rw [obj_set _ i j _ hi] at q1
  by_cases hij:i=j
  ·rw [if_pos hij] at q1;cases q1
  ·rw [if_neg hij] at q1
   exact hij (h.inv.apart i j _ u b hlive q1 e1 q2 rfl q3))
 refine ⟨_,⟨h.size,h.defers,fun t=>?_,hI,by show st.lo≤(setN st.objs i .gone).length;rw [setN_eq,List.length_set];exact h.lo⟩,hE,rfl⟩
 show Γ C.S _ w (lk ((p.1, .rp p.2 x 0):: st.slots) t) _
 by_cases ht:p.1=t
 ·subst ht
  have hr:lk ((p.1, .rp p.2 x 0):: st.slots) p.1=(.rp p.2 x 0:AV C.S.El):= by simp [lk]
  rw [hr]
  generalize a.tmps.getD p.1 undef=v at hsl
  cases hsl with
  | ref _ _ b' hv =>
   rw [e1] at hv
   cases hv
   have hg:=hS.dec p.2 cs x hd env w vs.toList e4
   have hlen:=hS.len p.2 x
   have:=Γ.rp (S:=C.S) (env:=⟨env.val,fun b' o=>env.prot b' o∨b'=b⟩) (w:=w) p.2 x 0 b 0 (fun k=>vs.toList.getD k undef) (fun k hk=>⟨?_, .inr rfl⟩) (fun j=>(hg.2 j).ext (hE st.objs.length) h.inv.fresh)
   ·simpa using this
   ·have hk2:k < vs.toList.length:=by rw [hg.1,hlen];exact hk
    have hk3:k < vs.size:=by simpa using hk2
    simp [World.cell?,e3,hk3]
 ·have hr:lk ((p.1, .rp p.2 x 0):: st.slots) t=lk st.slots t:=by
   have hb:Nat.beq p.1 t=false:=by
    cases hb:Nat.beq p.1 t
    ·rfl
    ·exact absurd (Nat.eq_of_beq_eq_true hb) ht
   simp only [lk,hb,cond_false]
  rw [hr]
  exact (h.slots t).ext (hE st.objs.length) h.inv.fresh
theorem Rel.frz (hS:SigOk C.S) {B:Nat} {w:World} {a:Act} (m:Nat): ∀(l:List (Nat×TypeId)) {env:Env} {st:St C.S.El},Rel C B env st a w→∃env',Rel C B env' (frzS C m l st) a w∧(∀N,Ext B N env w env' w)∧(frzS C m l st).lo=st.lo
 | [],env,st,h=>⟨env,h,fun N=>Ext.refl _ _ _ _,rfl⟩
 | p::l,env,st,h=>by
  obtain ⟨env1,h1,x1,l1⟩:= h.frz1 hS m p
  obtain ⟨env2,h2,x2,l2⟩:= Rel.frz hS m l h1
  exact ⟨env2,h2,fun N=>(x1 N).trans (x2 N),l2.trans l1⟩
theorem Rel.low (hS:SigOk C.S) {B:Nat} {env:Env} {w:World} {st:St C.S.El} {a:Act} (h:Rel C B env st a w) {lv:List Nat} {m:Nat} {args:List (AV C.S.El)} (hk:lowOk lv m st args=true): ∃env',Rel C B env' (lowS lv m st) a w∧Ext B (lowM lv m) env w env' w∧(∀t,lt2 m (lk (lowS lv m st).slots t)= true∨lk (lowS lv m st).slots t = .any)∧m≤(lowS lv m st).objs.length∧st.lo≤lowM lv m∧args.all (lt2 (lowM lv m))= true:=by
 simp only [lowOk,Bool.and_eq_true,Nat.ble_eq] at hk
 obtain ⟨h1,h2,h3,h4,h5,h7⟩:= hk
 have hr:Rel C B env (atLo (lowM lv m) st) a w:=⟨h.size,h.defers,h.slots,h.inv,h2⟩
 obtain ⟨env',r,x,l⟩:= hr.ge hS (headS_ge (lowKeep (lowM lv m) st ++ lv) [] _ h3)
 have hl:(headS (lowKeep (lowM lv m) st ++ lv) [] (atLo (lowM lv m) st)).lo=lowM lv m:=l
 rw [hl] at x
 have h6:lowM lv m≤(lowS lv m st).objs.length:=by have:=r.lo;rw [hl] at this;exact this
 exact ⟨env',⟨r.size,r.defers,r.slots,r.inv,Nat.le_trans h1 h6⟩,x,lk_mem _ h5,h7,h1,h4⟩
theorem G2.low (hS:SigOk C.S) {B m:Nat} {env env':Env} {w w':World} (hE:Ext B m env w env' w') {cs:List (AV C.S.El)} {vs:List Value} (h:G2 C.S env w cs vs) (hl:cs.all (lt2 m)= true): G2 C.S env' w' cs vs:=by
 refine ⟨h.1,fun j=>?_⟩
 have:=h.2 j
 simp only [List.getD] at this ⊢
 cases hc:cs[j]? with
 | none=>simpa using Γ.any (S:=C.S) _
 | some c =>
  rw [hc] at this
  exact Γ.lt2w hS hE.val (fun b o hp=>⟨hE.prot b o hp,hE.keep b o hp⟩) this ((List.all_eq_true.1 hl) c (List.mem_of_getElem? hc))
theorem Rel.putLow (hS:SigOk C.S) {B m:Nat} {env env':Env} {w w':World} {st st':St C.S.El} {a:Act} (h:Rel C B env st a w) (hm : ∀t,lt2 m (lk st.slots t)= true∨lk st.slots t = .any) {H:List (AObj C.S.El)} (hE:Ext B m env w env' w') (hI:Inv C.S B env' w' H) (hH:m≤H.length) (hlo:st.lo≤m) {d:Option Nat} {x:AV C.S.El} {v:Value} (hx:Γ C.S env' w' x v)
  (hput:putD {st with objs:=H} d x=some st'): Rel C B env' st' (a.put d v) w'∧st'.lo=st.lo:=by
 have hr:Rel C B env' {st with objs:=H} a w':=by
  refine ⟨h.size,h.defers,fun t=>?_,hI,Nat.le_trans hlo hH⟩
  rcases hm t with hl | hl
  ·exact Γ.lt2w hS hE.val (fun b o hp=>⟨hE.prot b o hp,hE.keep b o hp⟩) (h.slots t) hl
  ·show Γ C.S env' w' (lk st.slots t) _
   rw [hl];exact .any _
 exact hr.put (Ext.refl _ _ _ _) hI (Nat.le_refl _) hx hput
end
section
variable {C:Cx} {env:Env} {w:World} {B:Nat} {H:List (AObj C.S.El)}
theorem fresh_sl (hS:SigOk C.S) (hI:Inv C.S B env w H) {e:TypeId} {zs:List (C.S.El e)} {L:List Value} (hz:RowG C env w e zs L) {us:Array Value} (hus:us.toList.take L.length=L) {cap:Nat} (hc:zs.length≤cap) (hm:zs.length≤9223372036854775807):
  PureR C B env w H (.sl e zs false) (.slice (some ⟨w.heap.size,0,none⟩) zs.length cap) (w.drew.alloc (.cells us e)):= by
 obtain ⟨env',hv0,hI',hE,hcl⟩:= pure_alloc hI (oneMore_drew w (.cells us e))
 refine ⟨env',hv0, ?_,hI',hE⟩
 have hz':=hz.ext hE hI.fresh
 have hk : ∀k,k < zs.length*C.S.sz e→us[k]? = some (L.getD k undef):= by
  intro k hk
  have hkl:k < L.length:=by rw [hz.1];exact hk
  have h1:(us.toList.take L.length)[k]? = us.toList[k]?:=by rw [List.getElem?_take,if_pos hkl]
  rw [hus,List.getElem?_eq_getElem hkl] at h1
  rw [←Array.getElem?_toList,←h1]
  simp [List.getD,hkl]
 exact .sl e zs false w.heap.size 0 cap (fun k=>L.getD k undef) (by simp) ⟨hc,hm⟩ (fun k hk'=>by rw [Nat.zero_add];exact hcl k _ (hk k hk')) (fun i j hi=>hz'.2 i j hi)
theorem run_append_zero {P:Program} {t ty e:TypeId} {i:TypeInfo} (ht:P.underlying t=some (.slice e)) (hi:P.info? e=some i) (a b:Option Addr) (n cap c:Nat) (hn:n≤cap) (w:World):
  (Builtin.append_ #[t,t] ty #[.slice a n cap, .slice b 0 c]).run P w = .ok (.slice a n cap) w:=by
 cases a <;> cases b <;> simp [Builtin.append_,run_underlying ht,run_sizeOf hi,Builtin.lenOf,Builtin.firstCells,hn,storeCells,loadCells,loadCellsFrom]
theorem append_full (hS:SigOk C.S) (hI:Inv C.S B env w H) {t ty e:TypeId} {i:TypeInfo} (ht:C.P.underlying t=some (.slice e)) (hi:C.P.info? e=some i) (hz : ∃z,i.zero=some z∧z.cells.size=i.size) (hsz:i.size=C.S.sz e) (hby:1≤i.bytes)
  {vs vx:Value} {xs ys:List (C.S.El e)} {f:Bool} {x:AV C.S.El} (hs:Γ C.S env w (.sl e xs true) vs) (hd:deref H x = .sl e ys f) (hx:Γ C.S env w x vx) (hb:(xs.length+ys.length)* i.bytes≤140737488355328):
  ∃v' w',(Builtin.append_ #[t,t] ty #[vs,vx]).run C.P w = .ok v' w'∧PureR C B env w H (.sl e (xs ++ ys) false) v' w':=by
 obtain ⟨a,cap,news,rfl,hr,ha,hcell⟩:= read_sl hS hI hd hx
 obtain ⟨z,hz1,hz2⟩:= hz
 have hle:xs.length+ys.length≤(xs.length+ys.length)* i.bytes:=Nat.le_mul_of_pos_right _ hby
 have weak : ∀{v:Value},Γ C.S env w (.sl e xs true) v→Γ C.S env w (.sl e xs false) v:=by
  intro v h
  cases h with
  | sl _ _ _ b off cap val hf hc hw hv=>exact .sl e xs false b off cap val (fun h=>by cases h) hc hw hv
  | slnil=>exact .slnil e false
  | slemp _ _ a cap hf=>exact .slemp e false a cap (fun h=>by cases h)
 by_cases hy:ys=[]
 ·subst hy
  have hvs : ∃a0 n0 c0,vs = .slice a0 n0 c0∧n0≤c0:=by
   cases hs with
   | sl _ _ _ b off cap val hf hc hw hv=>exact ⟨_,_,_,rfl,hc.1⟩
   | slnil=>exact ⟨none,0,0,rfl,Nat.le_refl _⟩
   | slemp _ _ a cap hf=>exact ⟨_,_,_,rfl,Nat.zero_le _⟩
  obtain ⟨a0,n0,c0,rfl,hle0⟩:= hvs
  refine ⟨_,w,run_append_zero ht hi a0 a n0 c0 cap hle0 w, .same hI ?_⟩
  rw [List.append_nil];exact weak hs
 ·have hpos:0 < ys.length:=List.length_pos_iff.2 hy
  cases a with
  | none=>exact absurd (ha rfl) hy
  | some ad =>
   have hnl:news.length=ys.length*i.size:=by rw [hr.1,hsz]
   cases hs with
   | slnil =>
    have hrun:=run_append_nil (P:=C.P) (w:=w) t ty e i z ht hi hz1 ad ys.length cap news hnl (hcell ad rfl) hpos (by simp only [List.length_nil,Nat.zero_add] at hle hb;omega) (by simp only [List.length_nil,Nat.zero_add] at hb;omega)
    refine ⟨_,_,hrun, ?_⟩
    rw [List.nil_append]
    exact fresh_sl hS hI hr (by simp) (grownCap_ge w ys.length 0 e) (by simp only [List.length_nil,Nat.zero_add] at hle hb;omega)
   | slemp _ _ a0 cap0 hf =>
    have hcap:=hf rfl
    have hs':Γ C.S env w (.sl e [] true) (.slice (some a0) ([]: List (C.S.El e)).length cap0):= .slemp e true a0 cap0 hf
    obtain ⟨a1,cap1,olds,he1,hr0,ha0,hcell0⟩:= read_sl hS hI (x:=.sl e [] true) (f:=true) rfl hs'
    cases he1
    have hrun:=run_append_grow (P:=C.P) (w:=w) t ty e i z ht hi hz1 a0 ([]: List (C.S.El e)).length cap0 olds (by rw [hr0.1,hsz]) (hcell0 _ rfl) ad ys.length cap news hnl (hcell ad rfl) (by simp;omega) (by simp only [List.length_nil,Nat.zero_add] at hle hb ⊢;omega) (growslice_fits (by simp only [List.length_nil,Nat.zero_add] at hle hb ⊢;omega) hb)
    refine ⟨_,_,hrun, ?_⟩
    have hL:=hr0.append hS hr
    have:=fresh_sl hS hI hL (us:=olds.toArray ++ news.toArray ++ Builtin.zeroCells z.cells (grownCap w (([]: List (C.S.El e)).length+ys.length) cap0 e - (([]: List (C.S.El e)).length+ys.length))) (by simp [←List.append_assoc]) (cap:=grownCap w (([]: List (C.S.El e)).length+ys.length) cap0 e) (by rw [List.length_append];exact grownCap_ge w _ _ e) (by rw [List.length_append];simp only [List.length_nil,Nat.zero_add] at hle hb ⊢;omega)
    rw [List.length_append] at this
    exact this
   | sl _ _ _ b off cap0 val hf hc hw hv =>
    have hcap:=hf rfl
    have hs':Γ C.S env w (.sl e xs true) (.slice (some ⟨b,off,none⟩) xs.length cap0):= .sl e xs true b off cap0 val hf hc hw hv
    obtain ⟨a1,cap1,olds,he1,hr0,ha0,hcell0⟩:= read_sl hS hI (x:=.sl e xs true) (f:=true) rfl hs'
    cases he1
    have hrun:=run_append_grow (P:=C.P) (w:=w) t ty e i z ht hi hz1 ⟨b,off,none⟩ xs.length cap0 olds (by rw [hr0.1,hsz]) (hcell0 _ rfl) ad ys.length cap news hnl (hcell ad rfl) (by omega) (by omega) (growslice_fits (by omega) hb)
    refine ⟨_,_,hrun, ?_⟩
    have hL:=hr0.append hS hr
    have:=fresh_sl hS hI hL (us:=olds.toArray ++ news.toArray ++ Builtin.zeroCells z.cells (grownCap w (xs.length+ys.length) cap0 e - (xs.length+ys.length))) (by simp [←List.append_assoc]) (cap:=grownCap w (xs.length+ys.length) cap0 e) (by rw [List.length_append];exact grownCap_ge w _ _ e) (by rw [List.length_append];omega)
    rw [List.length_append] at this
    exact this
theorem full0_sound {t:TypeId} {x:AV C.S.El} {v:Value} (h:Γ C.S env w x v): Γ C.S env w (full0 C.P t x) v:=by
 unfold full0
 split
 ·cases h.unv
  cases elemT C.P t with
  | none=>exact .v _
  | some e=>exact .slnil e true
 ·exact h
theorem apA_sound (hC:CxOk C) (hI:Inv C.S B env w H) {o:Oper} {a:Act} {c:Call} {rho:Operand→AV C.S.El} (hop:o.op = .call c) (hcal:c.callee = .builtin .append) (hρ : ∀x∈c.operands.toList,Γ C.S env w (rho x) (a.eval x)) {ps:List Prop} {r:AV C.S.El}
  (h:apA C c rho H=some (ps,r)) (hp : ∀p∈ps,p): Does C.P o a w (PureR C B env w H r):= by
 have hS:=hC.sig
 unfold apA at h
 split at h
 ·rename_i s0 x t t' hargs htys
  split at h
  ·rename_i v xs e u ys f hfull he hd
   split at h
   ·rename_i hv
    split at h
    ·rename_i hu
     obtain ⟨hb,h⟩:= cond_some h
     subst hv
     subst hu
     cases h
     simp only [Bool.and_eq_true,Nat.ble_eq] at hb
     obtain ⟨⟨⟨hb1,hb2⟩,hb3⟩,hb4⟩:= hb
     have htt:=Nat.eq_of_beq_eq_true hb1
     subst htt
     obtain ⟨inf,hinf,hsz⟩:= info_of_size hS hb2
     obtain ⟨y1,y2,hl⟩: ∃y1 y2,c.args.toList=[y1,y2]:= by
      have hlen:=congrArg List.length hargs
      match hc:c.args.toList with
      | []=> rw [hc] at hlen;simp at hlen
      | [_]=> rw [hc] at hlen;simp at hlen
      | [y1,y2]=> exact ⟨y1,y2,rfl⟩
      | _::_::_::_=>rw [hc] at hlen;simp at hlen
     rw [hl] at hargs
     simp only [List.map_cons,List.map_nil,List.cons.injEq,and_true] at hargs
     obtain ⟨hy1,hy2⟩:= hargs
     have g1:=hρ y1 (by simp only [Call.operands,Array.toList_append,List.mem_append];right;rw [hl];simp)
     have g2:=hρ y2 (by simp only [Call.operands,Array.toList_append,List.mem_append];right;rw [hl];simp)
     rw [hy1] at g1
     rw [hy2] at g2
     have g1:=full0_sound (C:=C) (t:=t) g1
     rw [hfull] at g1
     have hbs:=bytes_run hinf
     rw [hbs.1] at hb4
     have hob:=hp _ (List.mem_singleton.2 rfl)
     rw [hbs.1] at hob
     obtain ⟨v',w',hrun,hR⟩:= append_full (ty:=o.type) hS hI (fit_typ he) hinf (zeroFit_run hinf hb3) hsz hb4 g1 hd g2 hob
     have hav:c.args.map a.eval = #[a.eval y1,a.eval y2]:= by
      apply Array.ext';simp [hl]
     have hat:c.argTypes = #[t,t]:= by apply Array.ext';simp [htys]
     exact does_value (by simp [execOp,hop,resolve,hcal,hav,hat,invoke,builtin,hrun]) hR
    ·cases h
   ·cases h
  ·cases h
 ·cases h
theorem apO_sound (hC:CxOk C) (hI:Inv C.S B env w H) {o:Oper} {a:Act} {rho:Operand→AV C.S.El} (hρ : ∀x∈o.op.operands.toList,Γ C.S env w (rho x) (a.eval x)) {ps:List Prop} {r:AV C.S.El}
  (h:apO C o rho H=some (ps,r)) (hp : ∀p∈ps,p): Does C.P o a w (PureR C B env w H r):= by
 unfold apO at h
 split at h
 case h_2=>cases h
 rename_i c hop
 split at h
 case h_2=>cases h
 rename_i hc
 split at h
 case h_2=>cases h
 exact apA_sound hC hI hop hc (fun y hy=>hρ y (by rw [hop];simpa [Op.operands] using hy)) h hp
end
section
variable {C:Cx} {env:Env} {w:World} {B:Nat}
theorem splK_self {o:Oper} {x:AV C.S.El} {P:AV C.S.El→Prop} (h:splK C o x P): P x:=by
 unfold splK at h
 split at h
 ·rename_i k r hsp hop
  rw [cond_both] at h
  cases h0:(r==0) with
  | true=>have:=eq_of_beq h0;subst this;exact h.1 rfl
  | false =>
   have h:=h.2 h0
   rw [cond_both] at h
   cases h1:(r==1) with
   | true=>have:=eq_of_beq h1;subst this;exact h.1 rfl
   | false =>
    have h:=h.2 h1
    revert h
    cases C.lg
    ·exact id
    ·exact fun h=>h.elim
 ·exact h
theorem splK_mono {o:Oper} {x:AV C.S.El} {P P':AV C.S.El→Prop} (hm : ∀x,P x→P' x) (h:splK C o x P): splK C o x P':=by
 unfold splK at h ⊢
 split at h
 ·rw [cond_both] at h ⊢
  refine ⟨fun h0=>hm _ (h.1 h0),fun h0=>?_⟩
  have h:=h.2 h0
  rw [cond_both] at h ⊢
  refine ⟨fun h1=>hm _ (h.1 h1),fun h1=>?_⟩
  have h:=h.2 h1
  revert h
  cases C.lg
  ·exact hm _
  ·exact id
 ·exact hm _ h
theorem evOne_sound (hC:CxOk C) {inl:Inl C.S.El} (hinl:InlOk C inl) (hplainF : ∀f args H K,inl f args H K→Plain C.P f) {o:Oper} {st:St C.S.El} {K:St C.S.El→Prop} (h:evOne C inl o st K) {a:Act} (hr:Rel C B env st a w) {next:Act→World→Prop} {Q:Exit→Act→World→Prop}
  (hn : ∀st' env' a' w',K st'→Rel C B env' st' a' w'→st'.lo=st.lo→Ext B st.lo env w env' w'→next a' w'): o.wp C.P a w next Q:=by
 unfold evOne at h
 split at h
 ·rename_i ps x hev
  have h:=splK_self h
  split at h
  ·rename_i st' hput
   rw [also_iff] at h
   obtain ⟨hp,hk⟩:= h
   have hρ:=rhoOf_sound hr (g:=none) (.inl rfl) (fun p hpp=>hp p (List.mem_append.2 (.inl hpp)))
   have hk:=asm_sound hC.sig hr.inv hρ hk
   refine (evP_sound hC hr.inv hρ hev (fun p hpp=>hp p (List.mem_append.2 (.inr hpp)))).wp fun v w' ⟨env',_,h1,h2,h3⟩=> ?_
   obtain ⟨hrel,hlo⟩:= hr.put h3 h2 (Nat.le_refl _) h1 hput
   exact hn _ _ _ _ hk hrel hlo (h3.mono hr.lo)
  ·exact h.elim
 ·split at h
  ·rename_i x hev
   split at h
   ·rename_i st' hput
    rw [also_iff] at h
    obtain ⟨hp,hk⟩:= h
    have hρ:=rhoOf_sound hr (g:=none) (.inl rfl) hp
    refine (fzA_sound hC hr.inv hρ hev).wp fun v w' ⟨env',_,h1,h2,h3⟩=> ?_
    obtain ⟨hrel,hlo⟩:= hr.put h3 h2 (Nat.le_refl _) h1 hput
    exact hn _ _ _ _ hk hrel hlo (h3.mono hr.lo)
   ·exact h.elim
  split at h
  ·rename_i ps x hev
   split at h
   ·rename_i st' hput
    rw [also_iff] at h
    obtain ⟨hp,hk⟩:= h
    have hρ:=rhoOf_sound hr (g:=none) (.inl rfl) (fun p hpp=>hp p (List.mem_append.2 (.inl hpp)))
    refine (apO_sound hC hr.inv hρ hev (fun p hpp=>hp p (List.mem_append.2 (.inr hpp)))).wp fun v w' ⟨env',_,h1,h2,h3⟩=> ?_
    obtain ⟨hrel,hlo⟩:= hr.put h3 h2 (Nat.le_refl _) h1 hput
    exact hn _ _ _ _ hk hrel hlo (h3.mono hr.lo)
   ·exact h.elim
  split at h
  ·rename_i ps x H hev
   split at h
   ·rename_i st' hput
    rw [also_iff] at h
    obtain ⟨hp,hk⟩:= h
    have hρ:=rhoOf_sound hr (g:=none) (.inl rfl) (fun p hpp=>hp p (List.mem_append.2 (.inl hpp)))
    refine (evI_sound hC hr.inv hρ hev (fun p hpp=>hp p (List.mem_append.2 (.inr hpp)))).wp fun v w' ⟨env',h1,h2,h3⟩=> ?_
    obtain ⟨hrel,hlo⟩:= hr.put h3 h2 (evI_len hev) h1 hput
    exact hn _ _ _ _ hk hrel hlo (h3.mono hr.lo)
   ·exact h.elim
  ·split at h
   ·rename_i c hop
    split at h
    ·rename_i f args ht
     split at h
     rotate_left
     ·rename_i m hm
      split at h
      ·rename_i hlow
       rw [also_iff] at h
       obtain ⟨hp,hk⟩:= h
       have hρ:=rhoOf_sound hr (g:=none) (.inl rfl) hp
       obtain ⟨x,fs,vs,hc2,hx,hg⟩:= targetOf_sound (e:=a.eval) (env:=env) (w:=w) ht (fun y hy=>hρ y (by rw [hop];simpa [Op.operands] using hy))
       obtain ⟨env0,r0,x0,l0⟩:= hr.frz hC.sig m C.fv
       obtain ⟨env1,r1,x1',l1,l2,l3',hargs⟩:= r0.low hC.sig hlow
       have x1:=(x0 _).trans x1'
       have l3:st.lo≤lowM C.lv m:=by rw [←l0];exact l3'
       have hlm:lowM C.lv m≤m:=Nat.sub_le _ _
       have hw:lwm C f (lowS C.lv m (frzS C m C.fv st)).objs.length=m:=by
        unfold lwm
        rw [hm]
        dsimp only
        rw [Nat.ble_eq_true_of_le l2];rfl
       have hcall:=hinl f args (lowS C.lv m (frzS C m C.fv st)).objs _ hk B env1 w _ (hg.low hC.sig x1 hargs) r1.inv
       have hplain:(execOp a.eval o).run C.P w = .ok (.enter f (fs ++ (c.args.map a.eval ++ vs))) w:=run_call hop hc2 hx (hplainF f args (lowS C.lv m (frzS C m C.fv st)).objs _ hk)
       simp only [Array.toArray_toList,hw] at hcall
       have hd:Does C.P o a w fun v w' => ∃env' r H',(match putD {lowS C.lv m (frzS C m C.fv st) with objs:=H'} o.dst r with | some st'=>K st' | none=>False)∧Γ C.S env' w' r v∧Inv C.S B env' w' H'∧Ext B m env1 w env' w'∧m≤H'.length:=by
        unfold Does
        rw [hplain]
        exact hcall.mono fun e w' ⟨v,env',r,H',he,h1,h2,h3,h4,h5⟩=> ⟨v,he,env',r,H',h1,h2,h3,h4,h5⟩
       refine hd.wp fun v w' ⟨env',r,H',h1,h2,h3,h4,h5⟩=> ?_
       split at h1
       ·rename_i st' hput
        obtain ⟨hrel,hlo⟩:= r1.putLow hC.sig l1 h4 h3 h5 (show (lowS C.lv m (frzS C m C.fv st)).lo≤m from Nat.le_trans l3' hlm) h2 hput
        exact hn _ _ _ _ h1 hrel (hlo.trans l0) ((x1.trans (h4.mono hlm)).mono l3)
       ·exact h1.elim
      ·exact h.elim
     rename_i hlw
     have hw:lwm C f st.objs.length=st.objs.length:=by unfold lwm;rw [hlw]
     rw [also_iff] at h
     obtain ⟨hp,hk⟩:= h
     have hρ:=rhoOf_sound hr (g:=none) (.inl rfl) hp
     obtain ⟨x,fs,vs,hc2,hx,hg⟩:= targetOf_sound (e:=a.eval) (env:=env) (w:=w) ht (fun y hy=>hρ y (by rw [hop];simpa [Op.operands] using hy))
     have hcall:=hinl f args st.objs _ hk B env w _ hg hr.inv
     have hplain:(execOp a.eval o).run C.P w = .ok (.enter f (fs ++ (c.args.map a.eval ++ vs))) w:=run_call hop hc2 hx (hplainF f args st.objs _ hk)
     simp only [Array.toArray_toList,hw] at hcall
     have hd:Does C.P o a w fun v w' => ∃env' r H',(match putD {st with objs:=H'} o.dst r with | some st'=>K st' | none=>False)∧Γ C.S env' w' r v∧Inv C.S B env' w' H'∧Ext B st.objs.length env w env' w'∧st.objs.length≤H'.length:=by
      unfold Does
      rw [hplain]
      exact hcall.mono fun e w' ⟨v,env',r,H',he,h1,h2,h3,h4,h5⟩=> ⟨v,he,env',r,H',h1,h2,h3,h4,h5⟩
     refine hd.wp fun v w' ⟨env',r,H',h1,h2,h3,h4,h5⟩=> ?_
     split at h1
     ·rename_i st' hput
      obtain ⟨hrel,hlo⟩:= hr.put h4 h3 h5 h2 hput
      exact hn _ _ _ _ h1 hrel hlo (h4.mono hr.lo)
     ·exact h1.elim
    ·exact h.elim
   ·rename_i t m k ok hop
    split at h
    ·rename_i n ks vs hlk
     rw [also_iff] at h
     obtain ⟨hp,hk⟩:= h
     have hρ:=rhoOf_sound hr (g:=none) (.inl rfl) hp
     obtain ⟨r,hP,hrun⟩:= lookup_run (ok:=ok) hr.inv hlk hk (hρ m (by rw [hop];simp [Op.operands])) (hρ k (by rw [hop];simp [Op.operands]))
     split at hP
     ·rename_i x hx
      split at hP
      ·rename_i st' hput
       obtain ⟨v,hv,hg⟩:= hrun x hx
       have hd:Does C.P o a w (PureR C B env w st.objs x):= does_value (v:=v) (by simp [execOp,hop,hv]) (.same hr.inv hg)
       refine hd.wp fun v w' ⟨env',_,h1,h2,h3⟩=> ?_
       obtain ⟨hrel,hlo⟩:= hr.put h3 h2 (Nat.le_refl _) h1 hput
       exact hn _ _ _ _ hP hrel hlo (h3.mono hr.lo)
      ·exact hP.elim
     ·exact hP.elim
    ·exact h.elim
   ·rename_i op t x y yt hop
    split at h
    ·rename_i neg p hnc
     rw [also_iff] at h
     obtain ⟨hp,hk⟩:= h
     have hρ:=rhoOf_sound hr (g:=none) (.inl rfl) hp
     obtain ⟨z,hz,hv⟩:= nilCmp_sound (x':=x) (y':=y) hC.sig hr.inv hnc (hρ x (by rw [hop];simp [Op.operands])) (hρ y (by rw [hop];simp [Op.operands]))
     have hk:=hk z hz
     split at hk
     ·rename_i st' hput
      have hd:Does C.P o a w (PureR C B env w st.objs (.v (.bool (bif neg then !z else z)))):= by
       refine does_value (v:=.bool (bif neg then !z else z)) ?_ (.same hr.inv (.v _))
       have hv':=congrArg (fun r=>Result.andThen r (fun (u:Value) w'=>Result.ok (Next.value u) w')) hv
       simp only [Sem.run_bind,andThen_assoc'] at hv'
       simp only [execOp,hop]
       simpa using hv'
      refine hd.wp fun v w' ⟨env',_,h1,h2,h3⟩=> ?_
      obtain ⟨hrel,hlo⟩:= hr.put h3 h2 (Nat.le_refl _) h1 hput
      exact hn _ _ _ _ hk hrel hlo (h3.mono hr.lo)
     ·exact hk.elim
    ·exact h.elim
   ·exact h.elim
theorem guardB_sound' {st:St C.S.El} {a:Act} {all:List Oper} {j:Nat} (h : ∀d,(all[j]?).bind (·.dst)= some d→Γ C.S env w (lk st.slots d) (a.tmps.getD d undef)) {want g:Bool} (hg:guardB st.slots all j want=some g): (yielded all.toArray a.tmps j==some want)= g:=by
 unfold guardB at hg
 rw [nth_eq] at hg
 cases hd:(all[j]?).bind (·.dst) with
 | none=>rw [hd] at hg;cases hg
 | some d =>
  rw [hd] at hg
  simp only at hg
  have hs:=h d hd
  have hy:yielded all.toArray a.tmps j=match a.tmps[d]? with | some (.bool b)=> some b | _=>none:=by
   unfold yielded
   simp only [List.getElem?_toArray,hd,Option.bind_some]
   rfl
  have hv : ∀b,a.tmps.getD d undef = .bool b→yielded all.toArray a.tmps j=some b:=by
   intro b hb
   rw [hy]
   rw [Array.getD_eq_getD_getElem?] at hb
   cases ht:a.tmps[d]? with
   | none=>rw [ht] at hb;cases hb
   | some u=>rw [ht] at hb;simp only [Option.getD_some] at hb;subst hb;rfl
  have hu:a.tmps.getD d undef=undef→yielded all.toArray a.tmps j=none:=by
   intro hb
   rw [hy]
   rw [Array.getD_eq_getD_getElem?] at hb
   cases ht:a.tmps[d]? with
   | none=>rfl
   | some u=>rw [ht] at hb;simp only [Option.getD_some] at hb;subst hb;rfl
  split at hg
  ·rename_i b hl
   rw [hl] at hs
   have:=hv b hs.unv
   rw [this]
   cases want <;> simp only [Option.some.injEq] at hg <;> subst hg <;> cases b <;> rfl
  ·rename_i g0 b hl
   rw [hl] at hs
   cases hs with | gd _ _ _ h1 h2 =>
   cases g0
   ·rw [hu (h2 rfl)]
    cases want <;> simp only [Option.some.injEq] at hg <;> subst hg <;> cases b <;> rfl
   ·have:=hv b (h1 rfl).unv
    rw [this]
    cases want <;> simp only [Option.some.injEq] at hg <;> subst hg <;> cases b <;> rfl
  ·cases hg
theorem guardB_sound {st:St C.S.El} {a:Act} (h:Rel C B env st a w) {all:List Oper} {j:Nat} {want g:Bool} (hg:guardB st.slots all j want=some g): (yielded all.toArray a.tmps j==some want)= g :=
 guardB_sound' (fun d _=>h.slots d) hg
theorem if0_mem {g:Bool} {p:Prop}: ∀(ps:List Prop),(∀q∈if0 g ps,q)→g=true→∀q∈ps,q
 | [],_,_,q,h=>by cases h
 | p::ps,h,hg,q,hq=>by
  simp only [if0,List.mem_cons,forall_eq_or_imp] at h
  rcases List.mem_cons.1 hq with rfl | hq
  ·exact h.1 hg
  ·exact if0_mem (p:=p) ps h.2 hg q hq
theorem gd_value {x:AV C.S.El} {v:Value} (hx:Γ C.S env w x v) (ho : ∀p∈own1 x,p): Γ C.S env w (bare x) v:=hx.unGd (own1_gd.1 ho)
theorem Rel.lgS {st:St C.S.El} {a:Act} (hr:Rel C B env st a w) {all:List Oper} {j:Nat} {want g:Bool} (hg:guardB st.slots all j want=some g) {b:Bool} (hb:b=(if g then want else !want)): Rel C B env (lgS C st all j b) a w∧(Go.Aw.lgS C st all j b).lo=st.lo:=by
 unfold Go.Aw.lgS
 split
 case h_2=>exact ⟨hr,rfl⟩
 rename_i d _ hd
 split
 case h_2=>exact ⟨hr,rfl⟩
 rename_i b0 hl
 refine ⟨⟨hr.size,hr.defers,fun k=>?_,hr.inv,hr.lo⟩,rfl⟩
 show Γ C.S env w (lk ((d, .v (.bool b)):: st.slots) k) _
 simp only [lk]
 cases hk:Nat.beq d k
 ·rw [cond_false];exact hr.slots k
 ·rw [cond_true]
  have:=Nat.eq_of_beq_eq_true hk
  subst this
  have hs:=hr.slots d
  rw [hl] at hs
  have e:=hs.unv
  rw [e]
  unfold guardB at hg
  rw [hd] at hg
  simp only [hl] at hg
  have:b=b0:=by
   subst hb
   cases want <;> simp only [Option.some.injEq] at hg <;> subst hg <;> cases b0 <;> rfl
  rw [this];exact .v _
theorem evOps_head (hC:CxOk C) {inl:Inl C.S.El} (hinl:InlOk C inl) (hplainF : ∀f args H K,inl f args H K→Plain C.P f) {all:List Oper} {Q:Exit→Act→World→Prop} {o:Oper} {rest:List Oper} {st:St C.S.El} {K:St C.S.El→Prop} {a:Act} (h:evOps C inl all (o::rest) st K) (hr:Rel C B env st a w)
  {next:Act→World→Prop} (hnext : ∀st1 env1 a1 w1,evOps C inl all rest st1 K→Rel C B env1 st1 a1 w1→st1.lo=st.lo→Ext B st.lo env w env1 w1→next a1 w1):
  if Region.wanted o (yielded all.toArray a.tmps) then o.wp C.P a w next Q else next (a.put o.dst undef) w:=by
 rw [evOps] at h
 split at h
 ·rename_i hgd
  rw [if_pos (by simp [Region.wanted,hgd])]
  exact evOne_sound hC hinl hplainF h hr fun st1 env1 a1 w1 h1 h2 h3 h4=>hnext st1 env1 a1 w1 h1 h2 h3 h4
 ·rename_i j want hgd
  split at h
  ·exact h.elim
  ·rename_i g hg
   have hwant:Region.wanted o (yielded all.toArray a.tmps)= g:=by
    simp only [Region.wanted,hgd]
    exact guardB_sound hr hg
   split at h
   ·rename_i ps x hev
    split at h
    ·rename_i st1 hput
     rw [also_iff] at h
     obtain ⟨hp,hk⟩:= h
     cases hgv:g
     ·rw [hwant,hgv]
      simp only [Bool.false_eq_true,if_false]
      subst hgv
      obtain ⟨hrel,hlo⟩:= hr.put (v:=undef) (x:=.gd false (bare x)) (Ext.refl _ _ _ _) hr.inv (Nat.le_refl _) (.gd _ _ _ (by simp) (fun _=>rfl)) hput
      exact (hnext st1 env _ w hk hrel hlo (Ext.refl _ _ _ _))
     ·rw [hwant,hgv]
      simp only [if_true]
      subst hgv
      have hp':=if0_mem (p:=True) _ hp rfl
      have hρ:=rhoOf_sound hr (g:=some true) (.inr rfl) (fun p hpp=>hp' p (List.mem_append.2 (.inl (List.mem_append.2 (.inl hpp)))))
      refine (evP_sound hC hr.inv hρ hev (fun p hpp=>hp' p (List.mem_append.2 (.inr hpp)))).wp fun v w' ⟨env',_,h1,h2,h3⟩=> ?_
      have hb:=gd_value h1 (fun p hpp=>hp' p (List.mem_append.2 (.inl (List.mem_append.2 (.inr hpp)))))
      obtain ⟨hrel,hlo⟩:= hr.put h3 h2 (Nat.le_refl _) (Γ.gd true (bare x) v (fun _=>hb) (by simp)) hput
      exact (hnext st1 env' _ w' hk hrel hlo (h3.mono hr.lo))
    ·exact h.elim
   ·rw [cond_both] at h
    obtain ⟨ht,hf⟩:= h
    cases hgv:g
    ·rw [hwant,hgv]
     simp only [Bool.false_eq_true,if_false]
     have hf':=hf hgv
     obtain ⟨hr',hlo'⟩:= hr.lgS hg (b:=!want) (by rw [hgv];rfl)
     split at hf'
     ·rename_i st1 hput
      obtain ⟨hrel,hlo⟩:= hr'.put (v:=undef) (x:=.gd g (.v (.bool false))) (Ext.refl _ _ _ _) hr'.inv (Nat.le_refl _) (.gd _ _ _ (fun h=>by rw [hgv] at h;cases h) (fun _=>rfl)) hput
      exact (hnext st1 env _ w hf' hrel (hlo.trans hlo') (Ext.refl _ _ _ _))
     ·exact hf'.elim
    ·rw [hwant,hgv]
     simp only [if_true]
     obtain ⟨hr',hlo'⟩:= hr.lgS hg (b:=want) (by rw [hgv];rfl)
     exact evOne_sound hC hinl hplainF (ht hgv) hr' fun st1 env1 a1 w1 h1 h2 h3 h4=>hnext st1 env1 a1 w1 h1 h2 (h3.trans hlo') (by rw [hlo'] at h4;exact h4)
theorem evOps_sound (hC:CxOk C) {inl:Inl C.S.El} (hinl:InlOk C inl) (hplainF : ∀f args H K,inl f args H K→Plain C.P f) (all:List Oper) {Q:Exit→Act→World→Prop}: ∀(l:List Oper) (st:St C.S.El) (K:St C.S.El→Prop) (env:Env) (a:Act) (w:World),evOps C inl all l st K→Rel C B env st a w→
  (∀st' env' a' w',K st'→Rel C B env' st' a' w'→st'.lo=st.lo→Ext B st.lo env w env' w'→Q .normal a' w')→wpList C.P all.toArray Q l a w
 | [],st,K,env,a,w,h,hr,hQ=>hQ st env a w h hr rfl (Ext.refl _ _ _ _)
 | o::rest,st,K,env,a,w,h,hr,hQ=>by
  have hnext : ∀st1 env1 a1 w1,evOps C inl all rest st1 K→Rel C B env1 st1 a1 w1→st1.lo=st.lo→Ext B st.lo env w env1 w1→wpList C.P all.toArray Q rest a1 w1:=fun st1 env1 a1 w1 h1 h2 h3 h4 =>
   evOps_sound hC hinl hplainF all rest st1 K env1 a1 w1 h1 h2 fun st' env' a' w' k1 k2 k3 k4=>hQ st' env' a' w' k1 k2 (k3.trans h3) (h4.trans (by rw [h3] at k4;exact k4))
  refine wpList_step fun K' hK'=>?_
  exact evOps_head hC hinl hplainF h hr fun st1 env1 a1 w1 h1 h2 h3 h4=>hK' _ _ (hnext st1 env1 a1 w1 h1 h2 h3 h4)
def exitOf:AExit→Exit
 | .normal => .normal
 | .exit id => .exit id
 | .ret => .ret
def Post (C:Cx) (B:Nat) (st:St C.S.El) (env:Env) (w:World) (K:AExit→St C.S.El→Prop) (Q:Exit→Act→World→Prop): Prop :=
 ∀e st' env' a' w',K e st'→Rel C B env' st' a' w'→st'.lo=st.lo→Ext B st.lo env w env' w'→Q (exitOf e) a' w'
end
end Go.Aw
