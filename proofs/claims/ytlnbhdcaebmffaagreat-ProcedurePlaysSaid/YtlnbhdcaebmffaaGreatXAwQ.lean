/-
  The reckoner's arithmetic, fields and indexes are the model's (own work).
-/
import Derived.Test.YtlnbhdcaebmffaaGreatXAwP
set_option linter.unusedSimpArgs false
set_option linter.unusedVariables false
namespace Go.Aw
open Go.RowKit
section
variable {C:Cx} {env:Env} {w:World} {B:Nat} {H:List (AObj C.S.El)}
def fitsV:List Bool→List Value→Prop
 | [],[]=> True
 | true::s, .bool _::l=>fitsV s l
 | false::s, .int _ _::l=>fitsV s l
 | _,_=>False
def eqV:List Value→List Value→Option Bool
 | [],[]=> some true
 | .int k a::l, .int k' b::l'=>if k=k' then (eqV l l').map ((a==b) && ·) else none
 | .bool a::l, .bool b::l'=>(eqV l l').map ((a==b) && ·)
 | _,_=>none
def wrapV (P:Program) (t:TypeId) (us:List Value): Value:=bif isAggT P t then .agg us.toArray else us.headD undef
theorem fitsV_split : ∀(s s':List Bool) (us:List Value),fitsV (s ++ s') us→∃a b,us=a ++ b∧fitsV s a∧fitsV s' b∧a.length=s.length
 | [],s',us,h=>⟨[],us,rfl,trivial,h,rfl⟩
 | true::s,s',us,h=>by
  match us,h with
  | .bool x::l,h =>
   obtain ⟨a,b,rfl,h1,h2,h3⟩:= fitsV_split s s' l h
   exact ⟨.bool x::a,b,rfl,h1,h2,by simp [h3]⟩
 | false::s,s',us,h=>by
  match us,h with
  | .int k x::l,h =>
   obtain ⟨a,b,rfl,h1,h2,h3⟩:= fitsV_split s s' l h
   exact ⟨.int k x::a,b,rfl,h1,h2,by simp [h3]⟩
theorem eqV_split : ∀(s:List Bool) (a b a' b':List Value) (r:Bool),fitsV s a→fitsV s a'→eqV (a ++ b) (a' ++ b')= some r→∃r1 r2,eqV a a'=some r1∧eqV b b'=some r2∧r=(r1 && r2)
 | [],a,b,a',b',r,h1,h2,h=>by
  match a,a',h1,h2 with
  | [],[],_,_=>exact ⟨true,r,rfl,h,by simp⟩
 | true::s,a,b,a',b',r,h1,h2,h=>by
  match a,a',h1,h2 with
  | .bool x::l, .bool y::l',h1,h2 =>
   simp only [List.cons_append,eqV,Option.map_eq_some_iff] at h
   obtain ⟨q,hq,rfl⟩:= h
   obtain ⟨r1,r2,e1,e2,rfl⟩:= eqV_split s l b l' b' q h1 h2 hq
   exact ⟨(x==y) && r1,r2,by simp [eqV,e1],e2,by rw [Bool.and_assoc]⟩
 | false::s,a,b,a',b',r,h1,h2,h=>by
  match a,a',h1,h2 with
  | .int k x::l, .int k' y::l',h1,h2 =>
   simp only [List.cons_append,eqV] at h
   split at h
   ·rename_i hk
    simp only [Option.map_eq_some_iff] at h
    obtain ⟨q,hq,rfl⟩:= h
    obtain ⟨r1,r2,e1,e2,rfl⟩:= eqV_split s l b l' b' q h1 h2 hq
    exact ⟨(x==y) && r1,r2,by simp [eqV,hk,e1],e2,by rw [Bool.and_assoc]⟩
   ·cases h
theorem isAggT_some {P:Program} {t:TypeId} {d:TypeDesc} (h:P.underlying t=some d): isAggT P t=aggD d:=by unfold isAggT;rw [h]
theorem part_wrap {P:Program} {t:TypeId} {d:TypeDesc} {i:TypeInfo} (hd:P.underlying t=some d) (hi:P.info? t=some i) (xs a b:List Value) (off:Nat) (hx:xs.drop off=a ++ b) (ha:a.length=sizeT P t) (h0:0 < a.length) (w:World):
  (part t xs.toArray off).run P w = .ok (wrapV P t a) w:=by
 have hs:sizeT P t=i.size:=by simp [sizeT,hi]
 unfold wrapV
 rw [isAggT_some hd]
 cases hag:aggD d
 ·have:xs[off]? = some (a.headD undef):= by
   have:(xs.drop off)[0]? = (a ++ b)[0]?:=by rw [hx]
   rw [List.getElem?_drop] at this
   match a,h0 with
   | u::us,_=>simpa using this
  simp [part,run_isAgg hd,hag,this]
 ·have tk:(xs.drop off).take i.size=a:=by rw [hx,←hs,←ha];simp
  simp [part,run_isAgg hd,hag,run_sizeOf hi,List.extract_eq_take_drop,tk]
theorem flatFs_head {f : TypeId→Option (List Bool)} {sz : TypeId→Nat} {fd : Field} {l : List Field} {n : Nat} {sh : List Bool} (h : flatFs f sz (fd :: l) n = some sh): fd.name≠ "_" ∧fd.offset = n∧∃s s',f fd.type = some s∧sz fd.type = s.length∧0 < s.length∧flatFs f sz l (n + s.length)= some s'∧sh = s ++ s' := by
 unfold flatFs at h
 cases hc : (fd.name == "_" || !(Nat.beq fd.offset n))
 ·rw [hc,cond_false] at h
  simp only [Bool.or_eq_false_iff,Bool.not_eq_false',beq_eq_false_iff_ne,ne_eq] at hc
  cases hf:f fd.type with
  | none=>rw [hf] at h;cases h
  | some s =>
   rw [hf] at h
   obtain ⟨h1,h⟩:= cond_some h
   simp only [Option.map_eq_some_iff] at h
   obtain ⟨s',h2,rfl⟩:= h
   simp only [Bool.and_eq_true,Nat.blt,Nat.ble_eq] at h1
   exact ⟨hc.1,Nat.eq_of_beq_eq_true hc.2,s,s',rfl,Nat.eq_of_beq_eq_true h1.1,by omega,h2,rfl⟩
 ·rw [hc,cond_true] at h;cases h
theorem eqFields_flat {P:Program} {dd:Nat} {f:TypeId→Option (List Bool)} (hf : ∀t s,f t=some s→(∃d,P.underlying t=some d)∧∀us vs b w,fitsV s us→fitsV s vs→eqV us vs=some b→(Op.equalIn dd t (wrapV P t us) (wrapV P t vs)).run P w = .ok b w)
  (xs ys:List Value): ∀(fs:List Field) (n:Nat) (sh:List Bool),flatFs f (sizeT P) fs n=some sh→∀us vs b w,xs.drop n=us→ys.drop n=vs→fitsV sh us→fitsV sh vs→eqV us vs=some b→(Op.eqFields dd xs.toArray ys.toArray fs).run P w = .ok b w
 | [],n,sh,h,us,vs,b,w,hx,hy,h1,h2,he=>by
  cases h
  match us,vs,h1,h2 with
  | [],[],_,_=>cases he;simp [Op.eqFields]
 | fd::fs,n,sh,h,us,vs,b,w,hx,hy,h1,h2,he=>by
  obtain ⟨hn,ho,s,s',hs,hsz,h0,hrest,rfl⟩:= flatFs_head h
  obtain ⟨⟨d,hd⟩,hft⟩:= hf _ _ hs
  obtain ⟨a,c,rfl,k1,k2,k3⟩:= fitsV_split s s' us h1
  obtain ⟨a',c',rfl,k1',k2',k3'⟩:= fitsV_split s s' vs h2
  obtain ⟨r1,r2,e1,e2,rfl⟩:= eqV_split s a c a' c' b k1 k1' he
  obtain ⟨i,hi⟩:= info_of_underlying hd
  have p1:=part_wrap hd hi xs a c fd.offset (by rw [ho];exact hx) (by rw [k3,hsz]) (by omega) w
  have p2:=part_wrap hd hi ys a' c' fd.offset (by rw [ho];exact hy) (by rw [k3',hsz]) (by omega) w
  have p3:=hft a a' r1 w k1 k1' e1
  have p4:=eqFields_flat hf xs ys fs (n+s.length) s' hrest c c' r2 w (by rw [←List.drop_drop,hx,←k3];simp) (by rw [←List.drop_drop,hy,←k3'];simp) k2 k2' e2
  simp only [Op.eqFields,hn,ne_eq,not_false_eq_true,if_true,Sem.run_bind,p1,p2,p3,Result.andThen_ok]
  cases r1
  ·simp
  ·simpa using p4
theorem equalIn_flat {P:Program}: ∀(m:Nat) (t:TypeId) (s:List Bool),flatK P m t=some s→(∃d,P.underlying t=some d)∧∀d us vs b w,fitsV s us→fitsV s vs→eqV us vs=some b→(Op.equalIn (d+m) t (wrapV P t us) (wrapV P t vs)).run P w = .ok b w
 | 0,t,s,h=>by cases h
 | m+1,t,s,h=>by
  unfold flatK at h
  split at h
  ·rename_i hu
   cases h
   refine ⟨⟨_,hu⟩,fun d us vs b w h1 h2 he=>?_⟩
   match us,vs,h1,h2 with
   | [.bool x],[.bool y],_,_ =>
    simp only [eqV,Option.map_some,Option.some.injEq,Bool.and_true] at he
    subst he
    have:isAggT P t=false:=by rw [isAggT_some hu];rfl
    simp only [wrapV,this,cond_false,List.headD_cons]
    exact run_equalIn_bool' w (d+m) t x y hu
  ·rename_i q hu
   cases h
   refine ⟨⟨_,hu⟩,fun d us vs b w h1 h2 he=>?_⟩
   match us,vs,h1,h2 with
   | [.int k x],[.int k' y],_,_ =>
    simp only [eqV] at he
    split at he
    ·rename_i hk
     subst hk
     simp only [Option.map_some,Option.some.injEq,Bool.and_true] at he
     subst he
     have:isAggT P t=false:=by rw [isAggT_some hu];rfl
     simp only [wrapV,this,cond_false,List.headD_cons]
     exact run_equalIn_int w (d+m) t k q x y hu
    ·cases he
  ·rename_i fs hu
   refine ⟨⟨_,hu⟩,fun d us vs b w h1 h2 he=>?_⟩
   obtain ⟨hst,h⟩: P.stoodInHeld t=false∧flatFs (flatK P m) (sizeT P) fs.toList 0=some s:=by
    cases hc:P.stoodInHeld t
    ·rw [hc,cond_false] at h;exact ⟨rfl,h⟩
    ·rw [hc,cond_true] at h;cases h
   have hag:isAggT P t=true:=by rw [isAggT_some hu];rfl
   have hfs:P.fieldsOf t=fs:=by simp [Program.fieldsOf,hu]
   simp only [wrapV,hag,cond_true]
   rw [show d+(m+1)= (d+m)+ 1 from rfl,run_equalIn_struct w (d+m) t _ _ (by rw [hfs];exact hu) hst,hfs]
   exact eqFields_flat (f:=flatK P m) (fun t s hs=>by
    obtain ⟨g1,g2⟩:= equalIn_flat m t s hs
    exact ⟨g1,fun us vs b w=>g2 d us vs b w⟩) us vs fs.toList 0 s h us vs b w rfl rfl h1 h2 he
  ·cases h
theorem fits_vals {s:List Bool}: ∀{cs:List (AV C.S.El)} {us:List Value},fitsA s cs=true→G2 C.S env w cs us→fitsV s us:=by
 induction s with
 | nil =>
  intro cs us h hg
  match cs,h with
  | [],_=>have:us=[]:= List.eq_nil_of_length_eq_zero hg.1;subst this;trivial
 | cons b s ih =>
  intro cs us h hg
  cases b
  ·match cs,h with
   | .v (.int k n):: l,h=>obtain ⟨u,us',rfl,h1,h2⟩:= hg.uncons;cases h1.unv;exact ih h h2
  ·match cs,h with
   | .v (.bool n):: l,h=>obtain ⟨u,us',rfl,h1,h2⟩:= hg.uncons;cases h1.unv;exact ih h h2
theorem eqCells_vals : ∀(cs ds:List (AV C.S.El)) (us vs:List Value) (b:Bool),eqCells cs ds=some b→G2 C.S env w cs us→G2 C.S env w ds vs→eqV us vs=some b
 | [],ds,us,vs,b,h,h1,h2=>by
  match ds,h with
  | [],h =>
   cases h
   have:us=[]:= List.eq_nil_of_length_eq_zero h1.1
   subst this
   have:vs=[]:= List.eq_nil_of_length_eq_zero h2.1
   subst this
   rfl
 | c::cs,ds,us,vs,b,h,h1,h2=>by
  obtain ⟨u,us',rfl,g1,g2⟩:= h1.uncons
  unfold eqCells at h
  split at h
  ·rename_i heq
   cases heq
  ·rename_i k a l k' b' l' heq
   cases heq
   obtain ⟨u',vs',rfl,g1',g2'⟩:= h2.uncons
   cases g1.unv;cases g1'.unv
   obtain ⟨hk,h⟩:= cond_some h
   have hk:=eq_of_beq hk
   split at h
   ·cases h
    have:us'=[]:= List.eq_nil_of_length_eq_zero g2.1
    subst this
    have:vs'=[]:= List.eq_nil_of_length_eq_zero g2'.1
    subst this
    simp [eqV,hk]
   ·simp only [Option.map_eq_some_iff] at h
    obtain ⟨q,hq,rfl⟩:= h
    have:=eqCells_vals cs l' us' vs' q hq g2 g2'
    simp [eqV,hk,this]
  ·rename_i a l b' l' heq
   cases heq
   obtain ⟨u',vs',rfl,g1',g2'⟩:= h2.uncons
   cases g1.unv;cases g1'.unv
   simp only [Option.map_eq_some_iff] at h
   obtain ⟨q,hq,rfl⟩:= h
   have:=eqCells_vals cs l' us' vs' q hq g2 g2'
   simp [eqV,this]
  ·cases h
theorem eq_flat {t:TypeId} {cs ds:List (AV C.S.El)} (h:eqOk C.P t cs ds=true) (op:BinOp) (x y:Operand) {us vs:Array Value} {b:Bool} (he:eqCells cs ds=some b) (h1:G2 C.S env w cs us.toList) (h2:G2 C.S env w ds vs.toList) (ho:op = .eql∨op = .neq):
  (do eqGuard op t x y (.agg us) (.agg vs);binOp op t (.agg us) (.agg vs): Sem Value).run C.P w = .ok (.bool (if op = .eql then b else !b)) w:=by
 unfold eqOk at h
 cases hk:flatK C.P 8 t with
 | none=>rw [hk] at h;cases h
 | some s =>
  rw [hk] at h
  simp only [Bool.and_eq_true,Bool.not_eq_true'] at h
  obtain ⟨ha,f1,f2,hgd⟩:= h
  have key:=(equalIn_flat 8 t s hk).2 9992 us.toList vs.toList b w (fits_vals f1 h1) (fits_vals f2 h2) (eqCells_vals cs ds _ _ b he h1 h2)
  simp only [wrapV,ha,cond_true,Array.toArray_toList] at key
  rcases ho with rfl | rfl
  ·simp [run_eqGuard_agg w .eql t x y us vs hgd,run_eql_struct,key]
  ·simp [run_eqGuard_agg w .neq t x y us vs hgd,run_neq_struct,key]
theorem arith_sound (op:BinOp) (t:TypeId) (x y:Operand) (k k':IntKind) (a b:Int) (hk:isShift op=true∨k=k') (w:World)
  (hp : ∀p∈(arith (El:=C.S.El) op k a b).1,p): ∃v,(do eqGuard op t x y (.int k a) (.int k' b);binOp op t (.int k a) (.int k' b): Sem Value).run C.P w = .ok v w∧Γ C.S env w (arith op k a b).2 v:=by
 cases op <;> simp only [isShift,Bool.false_eq_true,false_or,true_or] at hk <;> (try subst hk) <;> simp only [arith,List.mem_cons,List.not_mem_nil,or_false,forall_eq] at hp ⊢
 all_goals refine ⟨_, ?_, .v _⟩
 case quo | rem=>simp [eqGuard,binOp_quo,binOp_rem,Op.intDiv,hp]
 case shl | shr=>simp [eqGuard,binOp_shl,binOp_shr,Op.shift,Int.not_lt.2 hp,shlK,shrK]
 all_goals simp [eqGuard,go_sem,Op.intArith,Op.intBits,bandK,borK,bxorK,bclrK]
theorem binA_sound {op:BinOp} {t:TypeId} {x y:Operand} {ax ay r:AV C.S.El} {vx vy:Value} {ps:List Prop} (h:binA C op t ax ay=some (ps,r)) (hp : ∀p∈ps,p)
  (hx:Γ C.S env w ax vx) (hy:Γ C.S env w ay vy): ∃v,(do eqGuard op t x y vx vy;binOp op t vx vy:Sem Value).run C.P w = .ok v w∧Γ C.S env w r v:=by
 unfold binA at h
 split at h
 ·cases hx.unv;cases hy.unv
  rename_i k a k' b
  obtain ⟨hk,h⟩:= cond_some h
  rw [Option.some.injEq,Prod.ext_iff] at h
  obtain ⟨rfl,rfl⟩:= h
  refine arith_sound op t x y k k' a b ?_ w hp
  simpa using hk
 ·cases hx.unv;cases hy.unv
  obtain ⟨ht,h⟩:= cond_some h
  have ht:C.P.underlying t=some .bool:=by
   unfold isBool at ht
   split at ht
   ·assumption
   ·cases ht
  split at h <;> cases h
  all_goals exact ⟨_,by simp [eqGuard,binOp,run_equal_bool,ht], .v _⟩
 ·cases hx.unv;cases hy.unv
  split at h <;> cases h
  all_goals exact ⟨_,by simp [eqGuard,binOp,Op.stringOp,strEq], .v _⟩
 ·rename_i xs ys
  obtain ⟨us,rfl,hus⟩:= hx.unagg
  obtain ⟨vs,rfl,hvs⟩:= hy.unagg
  obtain ⟨ht,h⟩:= cond_some h
  cases hb:eqCells xs ys with
  | none=>rw [hb] at h;split at h <;> simp_all
  | some b =>
   rw [hb] at h
   cases op <;> simp only [Option.some.injEq,Prod.mk.injEq,reduceCtorEq] at h
   ·obtain ⟨rfl,rfl⟩:= h
    exact ⟨_,by simpa using eq_flat ht .eql x y hb hus hvs (.inl rfl), .v _⟩
   ·obtain ⟨rfl,rfl⟩:= h
    exact ⟨_,by simpa using eq_flat ht .neq x y hb hus hvs (.inr rfl), .v _⟩
 ·cases h
theorem unA_sound {op:UnOp} {ax r:AV C.S.El} {vx:Value} (h:unA op ax=some r) (hx:Γ C.S env w ax vx): ∃v,(Op.unary op vx).run C.P w = .ok v w∧Γ C.S env w r v:=by
 unfold unA at h
 split at h
 ·cases hx.unv
  split at h <;> cases h
  ·exact ⟨_,by simp [Op.unary,Op.intArith], .v _⟩
  ·exact ⟨_,by simp [Op.unary,Op.intBits,bnotK,bxorK], .v _⟩
 ·cases hx.unv
  split at h <;> cases h
  exact ⟨_,by simp [Op.unary], .v _⟩
 ·cases h
theorem foldMM_max {k:IntKind}: ∀(cs:List (AV C.S.El)) (a:Int) (vs:List Value) (r:AV C.S.El),foldMM maxI k a cs=some r→G2 C.S env w cs vs→
  ∃v,(vs.foldlM Builtin.max2 (.int k a)).run C.P w = .ok v w∧Γ C.S env w r v
 | [],a,vs,r,h,hg=>by
  obtain ⟨hl,_⟩:= hg
  have:vs=[]:= List.eq_nil_of_length_eq_zero hl
  subst this
  simp only [foldMM,Option.some.injEq] at h
  subst h
  exact ⟨_,by simp, .v _⟩
 | c::cs,a,vs,r,h,hg=>by
  obtain ⟨u,us,rfl,h1,h2⟩:= hg.uncons
  unfold foldMM at h
  split at h
  ·rename_i heq;cases heq
  ·rename_i k' b rest heq
   cases heq
   cases h1.unv
   obtain ⟨hk,h⟩:= cond_some h
   obtain ⟨v,hv,hr⟩:= foldMM_max _ _ us r h h2
   refine ⟨v, ?_,hr⟩
   simpa [List.foldlM_cons,Builtin.max2,maxI] using hv
  ·cases h
theorem foldMM_min {k:IntKind}: ∀(cs:List (AV C.S.El)) (a:Int) (vs:List Value) (r:AV C.S.El),foldMM minI k a cs=some r→G2 C.S env w cs vs→
  ∃v,(vs.foldlM Builtin.min2 (.int k a)).run C.P w = .ok v w∧Γ C.S env w r v
 | [],a,vs,r,h,hg=>by
  obtain ⟨hl,_⟩:= hg
  have:vs=[]:= List.eq_nil_of_length_eq_zero hl
  subst this
  simp only [foldMM,Option.some.injEq] at h
  subst h
  exact ⟨_,by simp, .v _⟩
 | c::cs,a,vs,r,h,hg=>by
  obtain ⟨u,us,rfl,h1,h2⟩:= hg.uncons
  unfold foldMM at h
  split at h
  ·rename_i heq;cases heq
  ·rename_i k' b rest heq
   cases heq
   cases h1.unv
   obtain ⟨hk,h⟩:= cond_some h
   obtain ⟨v,hv,hr⟩:= foldMM_min _ _ us r h h2
   refine ⟨v, ?_,hr⟩
   simpa [List.foldlM_cons,Builtin.min2,minI] using hv
  ·cases h
theorem fieldT_run {t:TypeId} {f:Nat} {d:Nat×TypeId} (h:fieldT C.P t f=some d): ∃(fs:Array Field) (fd:Field),C.P.underlying t=some (.struct fs)∧fs[f]? = some fd∧d=(fd.offset,fd.type):= by
 unfold fieldT at h
 split at h
 ·rename_i fs hfs
  rw [nth_eq] at h
  simp only [Option.map_eq_some_iff] at h
  obtain ⟨fd,hfd,rfl⟩:= h
  exact ⟨fs,fd,hfs,by simpa using hfd,rfl⟩
 ·cases h
theorem fieldAt_run {t:TypeId} {f:Nat} {d:Nat×TypeId} (h:fieldT C.P t f=some d) (hz:Nat.beq (sizeT C.P d.2) 0=false) (b o:Nat) (w:World):
  (Instr.fieldAt t (.pointer (some ⟨b,o,none⟩)) f).run C.P w = .ok (.pointer (some ⟨b,o+d.1,none⟩)) w:=by
 obtain ⟨fs,fd,h1,h2,rfl⟩:= fieldT_run h
 unfold sizeT at hz
 cases hi:C.P.info? fd.type with
 | none=>simp [hi] at hz
 | some i =>
  have hne : ¬i.size=0:=by
   intro h0
   simp [hi,h0] at hz
  simp [Instr.fieldAt,run_underlying h1,h2,Instr.sureAddr,fieldPlace,run_sizeOf hi,hne,Addr.add_lit]
theorem ite_none {α:Type} {b:Bool} {x y:α} (h:(bif b then none else some x)= some y): b=false∧x=y:=by
 cases b
 ·exact ⟨rfl,by simpa using h⟩
 ·simp at h
theorem fieldAddrA_sound {t:TypeId} {f:Nat} {ax r:AV C.S.El} {vx:Value} (h:fieldAddrA C t f ax=some r) (hx:Γ C.S env w ax vx): ∃v,(Instr.fieldAt t vx f).run C.P w = .ok v w∧Γ C.S env w r v:=by
 cases ax <;> simp only [fieldAddrA,reduceCtorEq] at h
 case ref i off =>
  cases hx with | ref _ _ b hb =>
  cases hd:fieldT C.P t f with
  | none=>simp [hd] at h
  | some d =>
   simp only [hd,Option.bind_some] at h
   obtain ⟨hz,rfl⟩:= ite_none h
   exact ⟨_,fieldAt_run hd hz b off w, .ref i _ b hb⟩
 case rg u i idx off =>
  cases hx with | rg _ _ _ _ b n cap bo hb =>
  cases hd:fieldT C.P t f with
  | none=>simp [hd] at h
  | some d =>
   simp only [hd,Option.bind_some] at h
   obtain ⟨hz,rfl⟩:= ite_none h
   refine ⟨_,fieldAt_run hd hz b _ w, ?_⟩
   rw [Nat.add_assoc,Nat.add_assoc]
   exact .rg u i idx _ b n cap bo hb
 case rp u x off =>
  cases hx with | rp _ _ _ b o val hw hv =>
  cases hd:fieldT C.P t f with
  | none=>simp [hd] at h
  | some d =>
   simp only [hd,Option.bind_some] at h
   obtain ⟨hz,rfl⟩:= ite_none h
   refine ⟨_,fieldAt_run hd hz b _ w, ?_⟩
   rw [Nat.add_assoc]
   exact .rp u x _ b o val hw hv
theorem part_run {t:TypeId} {cs:List (AV C.S.El)} {vs:Array Value} {off:Nat} {x:AV C.S.El} (h:whole C.P t cs off=some x) (hg:G2 C.S env w cs vs.toList): ∃v,(part t vs off).run C.P w = .ok v w∧Γ C.S env w x v:=by
 unfold whole at h
 split at h
 ·rename_i d i hd hi
  cases hag:aggD d
  ·rw [hag,cond_false,nth_eq] at h
   obtain ⟨v,hv,hx⟩:= hg.get h
   refine ⟨v, ?_,hx⟩
   have hv:vs[off]? = some v:=by simpa using hv
   simp [part,run_isAgg hd,hag,hv]
  ·rw [hag,cond_true] at h
   cases hc:cut cs off i.size with
   | none=>simp [hc] at h
   | some ds =>
    simp only [hc,Option.map_some,Option.some.injEq] at h
    subst h
    obtain ⟨hl,hg'⟩:= cut_sound hc hg
    refine ⟨.agg (vs.extract off (off+i.size)), ?_,G2.agg ?_⟩
    ·simp [part,run_isAgg hd,hag,run_sizeOf hi]
    ·rw [Array.toList_extract,List.extract_eq_take_drop]
     simpa using hg'
 ·cases h
theorem fieldA_sound {t:TypeId} {f:Nat} {ax r:AV C.S.El} {vx:Value} (h:fieldA C t f ax=some r) (hx:Γ C.S env w ax vx): ∃v,(Instr.field t vx f).run C.P w = .ok v w∧Γ C.S env w r v:=by
 cases ax <;> simp only [fieldA,reduceCtorEq] at h
 case agg cs =>
  obtain ⟨vs,rfl,hvs⟩:= hx.unagg
  cases hd:fieldT C.P t f with
  | none=>simp [hd] at h
  | some d =>
   simp only [hd,Option.bind_some] at h
   obtain ⟨fs,fd,h1,h2,rfl⟩:= fieldT_run hd
   obtain ⟨v,hv,hr⟩:= part_run h hvs
   exact ⟨v,by simp [Instr.field,run_underlying h1,h2,asAgg];exact hv,hr⟩
theorem fitE_run {t u:TypeId} (h:fitE C t u=true): ∃(d:TypeDesc) (e:TypeId),C.P.underlying t=some d∧((d = .slice e)∨∃n,d = .array n e)∧sizeT C.P e=C.S.sz u:=by
 unfold fitE at h
 split at h
 ·rename_i e he;exact ⟨_,e,he, .inl rfl,Nat.eq_of_beq_eq_true h⟩
 ·rename_i n e he;exact ⟨_,e,he, .inr ⟨n,rfl⟩,Nat.eq_of_beq_eq_true h⟩
 ·cases h
theorem isSl_run {t:TypeId} (h:isSl C.P t=true): ∃e,C.P.underlying t=some (.slice e):= by
 unfold isSl at h
 split at h
 ·exact ⟨_,‹_›⟩
 ·cases h
theorem size_run (hS:SigOk C.S) {e u:TypeId} (h:sizeT C.P e=C.S.sz u): ∃i,C.P.info? e=some i∧i.size=C.S.sz u:=by
 unfold sizeT at h
 cases hi:C.P.info? e with
 | none=>simp [hi] at h;have:=hS.pos u;omega
 | some i=>exact ⟨i,rfl,by simpa [hi] using h⟩
theorem indexAt_slice {t e:TypeId} {i:TypeInfo} (h1:C.P.underlying t=some (.slice e)) (h2:C.P.info? e=some i) {b off len cap:Nat} {k:IntKind} {n:Int} (h0:0≤n) (hn:n < len) (w:World):
  (Instr.indexAt t (.slice (some ⟨b,off,none⟩) len cap) (.int k n)).run C.P w = .ok (.pointer (some ⟨b,off+n.toNat*i.size,none⟩)) w:=by
 simp [Instr.indexAt,asIntOf,run_underlying h1,run_sizeOf h2,h0,hn,Addr.add_lit]
theorem indexAt_array {t e:TypeId} {i:TypeInfo} {len:Nat} (h1:C.P.underlying t=some (.array len e)) (h2:C.P.info? e=some i) {b off:Nat} {k:IntKind} {n:Int} (h0:0≤n) (hn:n < len) (w:World):
  (Instr.indexAt t (.pointer (some ⟨b,off,none⟩)) (.int k n)).run C.P w = .ok (.pointer (some ⟨b,off+n.toNat*i.size,none⟩)) w:=by
 simp [Instr.indexAt,asIntOf,Instr.sureAddr,run_underlying h1,run_sizeOf h2,h0,hn,Addr.add_lit]
theorem elem_rp {t:TypeId} {xs:List (C.S.El t)} {b off:Nat} {val:Nat→Value} {n:Nat} (hn:n < xs.length)
  (hw : ∀k,k < xs.length*C.S.sz t→w.cell? ⟨b,off+k,none⟩= some (val k)∧env.prot b (off+k))
  (h : ∀i j,i < xs.length→Γ C.S env w ((C.S.cell t (xs.getD i (C.S.dflt t))).getD j .any) (val (i*C.S.sz t+j))):
  Γ C.S env w (.rp t (xs.getD n (C.S.dflt t)) 0) (.pointer (some ⟨b,off+n*C.S.sz t,none⟩)):= by
 have hm:(n+1)* C.S.sz t≤xs.length*C.S.sz t:=Nat.mul_le_mul_right _ hn
 rw [Nat.add_mul,Nat.one_mul] at hm
 have:=Γ.rp (S:=C.S) (env:=env) (w:=w) t (xs.getD n (C.S.dflt t)) 0 b (off+n*C.S.sz t) (fun j=>val (n*C.S.sz t+j))
  (fun k hk=>by have:=hw (n*C.S.sz t+k) (by omega);rw [←Nat.add_assoc] at this;exact this) (fun j=>h n j hn)
 simpa using this
theorem indexAddrA_sound (hS:SigOk C.S) (hI:Inv C.S B env w H) {t:TypeId} {ax ai r:AV C.S.El} {vx vi:Value} {ps:List Prop} (h:indexAddrA C t H ax ai=some (ps,r)) (hp : ∀p∈ps,p)
  (hx:Γ C.S env w ax vx) (hi:Γ C.S env w ai vi): ∃v,(Instr.indexAt t vx vi).run C.P w = .ok v w∧Γ C.S env w r v:=by
 unfold indexAddrA at h
 split at h
 ·rename_i u xs full k n
  cases hi.unv
  obtain ⟨hc,h⟩:= cond_some h
  cases h
  obtain ⟨h0,hn⟩:= hp _ (List.mem_singleton.2 rfl)
  simp only [Bool.and_eq_true] at hc
  obtain ⟨e,he⟩:= isSl_run hc.1
  obtain ⟨d,e',hd,hde,hsz⟩:= fitE_run hc.2
  rw [he] at hd;cases hd
  rcases hde with hde | ⟨_,hde⟩ <;> cases hde
  obtain ⟨i,hi1,hi2⟩:= size_run hS hsz
  cases hx with
  | sl _ _ _ b off cap val hf hcc hw hv =>
   refine ⟨_,indexAt_slice he hi1 h0 hn w, ?_⟩
   rw [hi2]
   exact elem_rp (by omega) hw hv
  | slnil=>simp at hn;omega
  | slemp=>simp at hn;omega
 ·rename_i u xs k n
  cases hi.unv
  obtain ⟨hc,h⟩:= cond_some h
  simp only [Option.map_eq_some_iff] at h
  obtain ⟨len,hlen,h⟩:= h
  cases h
  obtain ⟨rfl,h0,hn⟩:= hp _ (List.mem_singleton.2 rfl)
  unfold lenArr at hlen
  split at hlen
  ·rename_i m e he
   cases hlen
   obtain ⟨d,e',hd,hde,hsz⟩:= fitE_run hc
   rw [he] at hd;cases hd
   rcases hde with hde | ⟨_,hde⟩ <;> cases hde
   obtain ⟨i,hi1,hi2⟩:= size_run hS hsz
   cases hx with
   | ra _ _ b val hw hv =>
    refine ⟨_,indexAt_array he hi1 h0 hn w, ?_⟩
    rw [hi2]
    exact elem_rp (off:=0) (by omega) (fun k hk=>by simpa using hw k hk) hv
  ·cases hlen
 ·rename_i i k n
  cases hi.unv
  have ho:=hI.objs i
  cases hobj:obj H i with
  | row u xs =>
   rw [hobj] at h ho
   obtain ⟨hc,h⟩:= cond_some h
   cases h
   obtain ⟨h0,hn⟩:= hp _ (List.mem_singleton.2 rfl)
   simp only [Bool.and_eq_true] at hc
   obtain ⟨e,he⟩:= isSl_run hc.1
   obtain ⟨d,e',hd,hde,hsz⟩:= fitE_run hc.2
   rw [he] at hd;cases hd
   rcases hde with hde | ⟨_,hde⟩ <;> cases hde
   obtain ⟨inf,hi1,hi2⟩:= size_run hS hsz
   cases hx with | gs _ a m cap hv =>
   obtain ⟨u',ws,h1,h2,h3⟩:= ho
   rw [hv] at h1;cases h1
   rcases h2.2 with ⟨h4,h5⟩| ⟨g,cap',cur,fz,bo,h4,_⟩
   ·omega
   ·cases h4
    refine ⟨_,indexAt_slice he hi1 h0 hn w, ?_⟩
    rw [hi2]
    have:=Γ.rg (S:=C.S) (env:=env) (w:=w) u i n.toNat 0 g _ _ bo hv
    simpa using this
  | frozen u xs =>
   rw [hobj] at h ho
   obtain ⟨hc,h⟩:= cond_some h
   cases h
   obtain ⟨h0,hn⟩:= hp _ (List.mem_singleton.2 rfl)
   simp only [Bool.and_eq_true] at hc
   obtain ⟨e,he⟩:= isSl_run hc.1
   obtain ⟨d,e',hd,hde,hsz⟩:= fitE_run hc.2
   rw [he] at hd;cases hd
   rcases hde with hde | ⟨_,hde⟩ <;> cases hde
   obtain ⟨inf,hi1,hi2⟩:= size_run hS hsz
   cases hx with | gs _ a m cap hv =>
   obtain ⟨u',h1,h2⟩:= ho
   rw [hv] at h1;cases h1
   cases h2 with
   | sl _ _ _ b off cap val hf hcc hw hvv =>
    refine ⟨_,indexAt_slice he hi1 h0 hn w, ?_⟩
    rw [hi2]
    exact elem_rp (by omega) hw hvv
   | slnil=>simp at hn;omega
   | slemp=>simp at hn;omega
  | _=>rw [hobj] at h;cases h
 ·rename_i i off k n
  cases hi.unv
  split at h
  ·rename_i len e he
   obtain ⟨hnn,h⟩:= ite_none h
   cases h
   obtain ⟨h0,hn⟩:= hp _ (List.mem_singleton.2 rfl)
   cases hx with | ref _ _ b hb =>
   cases hi:C.P.info? e with
   | none=>simp [hi] at hnn
   | some i =>
    refine ⟨_,indexAt_array he hi h0 hn w, ?_⟩
    have:sizeT C.P e=i.size:=by simp [sizeT,hi]
    rw [this]
    exact .ref _ _ b hb
  ·cases h
 ·rename_i u x off k n
  cases hi.unv
  split at h
  ·rename_i len e he
   obtain ⟨hnn,h⟩:= ite_none h
   cases h
   obtain ⟨h0,hn⟩:= hp _ (List.mem_singleton.2 rfl)
   cases hx with | rp _ _ _ b o val hw hv =>
   cases hi:C.P.info? e with
   | none=>simp [hi] at hnn
   | some i =>
    refine ⟨_,indexAt_array he hi h0 hn w, ?_⟩
    have:sizeT C.P e=i.size:=by simp [sizeT,hi]
    rw [this,Nat.add_assoc]
    exact .rp _ _ _ b o val hw hv
  ·cases h
 ·cases h
theorem lenA_sound (hI:Inv C.S B env w H) {t ty:TypeId} {ax r:AV C.S.El} {vx:Value} (h:lenA C.P t H ax=some r) (hx:Γ C.S env w ax vx):
  ∃v,(Builtin.len_ #[t] ty #[vx]).run C.P w = .ok v w∧Γ C.S env w r v:=by
 unfold lenA at h
 split at h
 ·obtain ⟨hs,h⟩:= cond_some h
  cases h
  obtain ⟨e,he⟩:= isSl_run hs
  cases hx with
  | sl=>exact ⟨_,by simp [Builtin.len_,run_underlying he,goInt], .v _⟩
  | slnil=>exact ⟨_,by simp [Builtin.len_,run_underlying he,goInt], .v _⟩
  | slemp=>exact ⟨_,by simp [Builtin.len_,run_underlying he,goInt], .v _⟩
 ·rename_i i
  obtain ⟨hs,h⟩:= cond_some h
  obtain ⟨e,he⟩:= isSl_run hs
  cases hx with | gs _ a n c hv =>
  have ho:=hI.objs i
  cases hobj:obj H i with
  | row u xs =>
   rw [hobj] at h ho
   cases h
   obtain ⟨u',ws,h1,h2,h3⟩:= ho
   rw [hv] at h1;cases h1
   have hn:n=xs.length:=by
    rcases h2.2 with ⟨h4,h5⟩| ⟨g,cap',cur,fz,bo,h4,_⟩
    ·cases h4;exact h5.symm
    ·cases h4;rfl
   subst hn
   exact ⟨_,by simp [Builtin.len_,run_underlying he,goInt], .v _⟩
  | frozen u xs =>
   rw [hobj] at h ho
   cases h
   obtain ⟨u',h1,h2⟩:= ho
   rw [hv] at h1;cases h1
   cases h2 with
   | sl=>exact ⟨_,by simp [Builtin.len_,run_underlying he,goInt], .v _⟩
   | slnil=>exact ⟨_,by simp [Builtin.len_,run_underlying he,goInt], .v _⟩
   | slemp=>exact ⟨_,by simp [Builtin.len_,run_underlying he,goInt], .v _⟩
  | _=>rw [hobj] at h;cases h
 ·obtain ⟨hs,h⟩:= cond_some h
  cases h
  cases hx.unv
  unfold isStr at hs
  split at hs
  ·rename_i he
   exact ⟨_,by simp [Builtin.len_,run_underlying he,goInt], .v _⟩
  ·cases hs
 ·obtain ⟨hs,h⟩:= cond_some h
  cases h
  cases hx.unv
  obtain ⟨e,he⟩:= isSl_run hs
  exact ⟨_,by simp [Builtin.len_,run_underlying he,goInt], .v _⟩
 ·cases h
theorem byteAt_run {s:ByteArray} {n:Int} (h0:0≤n) (hn:n < s.size): ∃b:UInt8,s[n.toNat]? = some b∧byteAt s n=b.toNat:=by
 have hlt:n.toNat < s.size:=by omega
 refine ⟨s[n.toNat],by simp [hlt], ?_⟩
 unfold byteAt bytesI
 have hl:n.toNat < s.data.toList.length:=by simpa using hlt
 simp only [List.getD,List.getElem?_map,List.getElem?_eq_getElem hl,Option.map_some,Option.getD_some]
 rfl
theorem indexA_sound {t:TypeId} {ax ai r:AV C.S.El} {vx vi:Value} {ps:List Prop} (h:indexA C t ax ai=some (ps,r)) (hp : ∀p∈ps,p)
  (hx:Γ C.S env w ax vx) (hi:Γ C.S env w ai vi): ∃v,(Instr.index t vx vi).run C.P w = .ok v w∧Γ C.S env w r v:=by
 unfold indexA at h
 split at h
 ·obtain ⟨hs,h⟩:= cond_some h
  cases h
  cases hx.unv;cases hi.unv
  rename_i s k n
  obtain ⟨h0,hn⟩:= hp _ (List.mem_singleton.2 rfl)
  unfold isStr at hs
  split at hs
  ·rename_i he
   obtain ⟨b,hb,hb2⟩:= byteAt_run h0 hn
   exact ⟨.int .u8 b.toNat,by simp [Instr.index,asIntOf,run_underlying he,h0,hb],by rw [hb2];exact .v _⟩
  ·cases hs
 ·obtain ⟨vs,rfl,hvs⟩:= hx.unagg
  cases hi.unv
  split at h
  ·rename_i k n len e he
   simp only [Option.map_eq_some_iff] at h
   obtain ⟨x,hx2,h⟩:= h
   cases h
   obtain ⟨h0,hn⟩:= hp _ (List.mem_singleton.2 rfl)
   obtain ⟨v,hv,hr⟩:= part_run hx2 hvs
   cases hi:C.P.info? e with
   | none=>unfold whole at hx2;rw [hi] at hx2;split at hx2 <;> simp_all
   | some i =>
    have hsz:sizeT C.P e=i.size:=by simp [sizeT,hi]
    rw [hsz] at hv
    exact ⟨v,by simp [Instr.index,asIntOf,run_underlying he,h0,hn,run_sizeOf hi,hv],hr⟩
  ·cases h
 ·cases h
theorem bnd_run {o:Option (AV C.S.El)} {ov:Option Value} {d n:Int} (h:bnd d o=some n) (hg : ∀x,o=some x→∃v,ov=some v∧Γ C.S env w x v) (hn:o=none→ov=none):
  (o=none∧ov=none∧n=d)∨∃k,ov=some (.int k n):= by
 unfold bnd at h
 split at h
 ·cases h;exact .inl ⟨rfl,hn rfl,rfl⟩
 ·cases h
  obtain ⟨v,hv,hx⟩:= hg _ rfl
  cases hx.unv
  exact .inr ⟨_,hv⟩
 ·cases h
theorem sliceBound_run {k:IntKind} {n:Int} {y:Nat} {code:BoundsCode} (h0:0≤n) (hn:n≤y) (w:World) (P:Program): (Instr.sliceBound (.int k n) y code).run P w = .ok n.toNat w:=by
 simp [Instr.sliceBound,asIntOf,h0,hn]
theorem sliceBounds_run {P:Program} {isS:Bool} {len cap:Nat} {lo hi mx:Option Value} {l h m:Int} (hl:(lo=none∧l=0)∨∃k,lo=some (.int k l)) (hh:(hi=none∧h=len)∨∃k,hi=some (.int k h))
  (hm:(mx=none∧m=cap)∨(∃k,mx=some (.int k m))∧∃k,hi=some (.int k h)) (h0:0≤l) (h1:l≤h) (h2:h≤m) (h3:m≤cap) (w:World):
  (Instr.sliceBounds isS len cap lo hi mx).run P w = .ok (l.toNat,h.toNat,m.toNat) w:=by
 have e1:(m.toNat:Int)= m:=by omega
 have e2:(h.toNat:Int)= h:=by omega
 rcases hm with ⟨rfl,rfl⟩| ⟨⟨km,rfl⟩,kh,rfl⟩
 ·rcases hh with ⟨rfl,rfl⟩| ⟨kh,rfl⟩ <;> rcases hl with ⟨rfl,rfl⟩| ⟨kl,rfl⟩
  ·simp [Instr.sliceBounds]
  ·simp [Instr.sliceBounds,sliceBound_run h0 h1]
  ·simp [Instr.sliceBounds,sliceBound_run (show 0≤h by omega) h2]
  ·simp [Instr.sliceBounds,sliceBound_run (show 0≤h by omega) h2,sliceBound_run h0 (show l≤(h.toNat:Nat) by omega)]
 ·rcases hl with ⟨rfl,rfl⟩| ⟨kl,rfl⟩
  ·simp [Instr.sliceBounds,sliceBound_run (show 0≤m by omega) h3,sliceBound_run (show 0≤h by omega) (show h≤(m.toNat:Nat) by omega)]
  ·simp [Instr.sliceBounds,sliceBound_run (show 0≤m by omega) h3,sliceBound_run (show 0≤h by omega) (show h≤(m.toNat:Nat) by omega),sliceBound_run h0 (show l≤(h.toNat:Nat) by omega)]
theorem sliceAt_slice {t e:TypeId} {i:TypeInfo} (h1:C.P.underlying t=some (.slice e)) (h2:C.P.info? e=some i) {a:Option Addr} {len cap l h m:Nat} {lo hi mx:Option Value}
  (hb:(Instr.sliceBounds true len cap lo hi mx).run C.P w = .ok (l,h,m) w):
  (Instr.sliceAt t (.slice a len cap) lo hi mx).run C.P w = .ok (.slice (if m=l then a else a.map (·.add (l*i.size))) (h - l) (m - l)) w:=by
 simp [Instr.sliceAt,Instr.slice,run_underlying h1,hb,run_sizeOf h2]
theorem sub_take {α:Type} (xs:List α) (l h:Nat) (hh:h≤xs.length) (hl:l≤h): ((xs.take h).drop l).length=h - l:=by simp;omega
theorem sub_getD {α:Type} (xs:List α) (l h i:Nat) (d:α) (hi:i < h - l): ((xs.take h).drop l).getD i d=xs.getD (l+i) d:=by
 simp only [List.getD,List.getElem?_drop,List.getElem?_take]
 rw [if_pos (by omega)]
theorem sl_sub {t:TypeId} {xs:List (C.S.El t)} {full full':Bool} {a:Option Addr} {n cap l h m:Nat} (hg:Γ C.S env w (.sl t xs full) (.slice a n cap)) (h0:l≤h) (h1:h≤xs.length) (h2:h≤m) (h3:m≤cap)
  (hf:full'=true→m=h): Γ C.S env w (.sl t ((xs.take h).drop l) full') (.slice (if m=l then a else a.map (·.add (l*C.S.sz t))) (h - l) (m - l)):= by
 have hlen:=sub_take xs l h h1 h0
 cases hg with
 | sl _ _ _ b off cap val _ hc hw hv =>
  rw [←hlen]
  have hm:h*C.S.sz t≤xs.length*C.S.sz t:=Nat.mul_le_mul_right _ h1
  have hlh:(h - l)* C.S.sz t+l*C.S.sz t=h*C.S.sz t:=by rw [←Nat.add_mul,Nat.sub_add_cancel h0]
  by_cases he:m=l
  ·have hn:(xs.take h).drop l=[]:= List.eq_nil_of_length_eq_zero (by omega)
   rw [if_pos he]
   refine .sl t _ full' b off (m - l) val (fun hh=>by rw [hlen,hf hh]) (by omega) (fun k hk=>?_) (fun i j hi=>?_)
   ·rw [hlen] at hk;have:h - l=0:=by omega
    rw [this] at hk;omega
   ·omega
  ·rw [if_neg he]
   simp only [Option.map_some,Addr.add_lit]
   refine .sl t _ full' b (off+l*C.S.sz t) (m - l) (fun k=>val (l*C.S.sz t+k)) (fun hh=>by rw [hlen,hf hh]) (by omega) (fun k hk=>?_) (fun i j hi=>?_)
   ·rw [hlen] at hk
    have:=hw (l*C.S.sz t+k) (by omega)
    rw [←Nat.add_assoc] at this
    exact this
   ·rw [hlen] at hi
    rw [sub_getD _ _ _ _ _ hi]
    have:=hv (l+i) j (by omega)
    rw [Nat.add_mul,Nat.add_assoc] at this
    exact this
 | slnil =>
  simp only [List.length_nil] at h1
  have e1:h=0:=by omega
  have e2:l=0:=by omega
  have e3:m=0:=by omega
  subst e1 e2 e3
  simpa using Γ.slnil (S:=C.S) (env:=env) (w:=w) t full'
 | slemp _ _ a cap hfc =>
  simp only [List.length_nil] at h1
  have e1:h=0:=by omega
  have e2:l=0:=by omega
  subst e1 e2
  have ea:(if m=0 then some a else (some a).map (·.add (0*C.S.sz t)))= some a:=by
   split
   ·rfl
   ·simp [Addr.add]
  rw [ea]
  simpa using Γ.slemp (S:=C.S) (env:=env) (w:=w) t full' a m hf
theorem sliceA_sound (hS:SigOk C.S) {t:TypeId} {alo ahi amx:Option (AV C.S.El)} {lo hi mx:Option Value} {ax r:AV C.S.El} {vx:Value} {ps:List Prop} (h:sliceA C t alo ahi amx ax=some (ps,r)) (hp : ∀p∈ps,p)
  (hx:Γ C.S env w ax vx) (hlo : ∀x,alo=some x→∃v,lo=some v∧Γ C.S env w x v) (hlo':alo=none→lo=none) (hhi : ∀x,ahi=some x→∃v,hi=some v∧Γ C.S env w x v) (hhi':ahi=none→hi=none)
  (hmx : ∀x,amx=some x→∃v,mx=some v∧Γ C.S env w x v) (hmx':amx=none→mx=none):
  ∃v,(Instr.sliceAt t vx lo hi mx).run C.P w = .ok v w∧Γ C.S env w r v:=by
 cases ax <;> simp only [sliceA,reduceCtorEq] at h
 case sl u xs full =>
  obtain ⟨hc,h⟩: (!(isSl C.P t && fitE C t u))= false∧_:=by
   cases hb:(!(isSl C.P t && fitE C t u))
   ·rw [hb,cond_false] at h;exact ⟨rfl,h⟩
   ·rw [hb,cond_true] at h;cases h
  simp only [Bool.not_eq_false',Bool.and_eq_true] at hc
  obtain ⟨e,he⟩:= isSl_run hc.1
  obtain ⟨d,e',hd,hde,hsz⟩:= fitE_run hc.2
  rw [he] at hd;cases hd
  rcases hde with hde | ⟨_,hde⟩ <;> cases hde
  obtain ⟨i,hi1,hi2⟩:= size_run hS hsz
  obtain ⟨a,cap,rfl,hcap,hfull⟩: ∃a cap,vx = .slice a xs.length cap∧xs.length≤cap∧(full=true→cap=xs.length):= by
   cases hx with
   | sl _ _ _ b off cap val hf hcc hw hv=>exact ⟨_,cap,rfl,hcc.1,hf⟩
   | slnil=>exact ⟨none,0,rfl,Nat.le_refl _,fun _=>rfl⟩
   | slemp _ _ a cap hf=>exact ⟨_,cap,rfl,Nat.zero_le _,hf⟩
  cases hl:bnd 0 alo with
  | none=>rw [hl] at h;cases h
  | some l =>
  cases hhh:bnd xs.length ahi with
  | none=>rw [hl,hhh] at h;cases h
  | some hh =>
  rw [hl,hhh] at h
  have hl2:=bnd_run hl hlo hlo'
  have hh2:=bnd_run hhh hhi hhi'
  have hl3:(lo=none∧l=0)∨∃k,lo=some (.int k l):= by rcases hl2 with ⟨_,a,b⟩| b;exact .inl ⟨a,b⟩;exact .inr b
  have hh3:(hi=none∧hh=xs.length)∨∃k,hi=some (.int k hh):= by rcases hh2 with ⟨_,a,b⟩| b;exact .inl ⟨a,b⟩;exact .inr b
  split at h
  ·rename_i h1 h2 h3
   cases h1;cases h2
   cases h
   obtain ⟨p1,p2,p3⟩:= hp _ (List.mem_singleton.2 rfl)
   cases hmx' rfl
   have hb:=sliceBounds_run (P:=C.P) (isS:=true) (len:=xs.length) (cap:=cap) (mx:=none) (m:=cap) hl3 hh3 (.inl ⟨rfl,rfl⟩) p1 p2 (by omega) (by omega) w
   refine ⟨_,sliceAt_slice he hi1 hb, ?_⟩
   rw [hi2]
   simp only [Int.toNat_natCast]
   refine sl_sub hx (by omega) (by omega) (by omega) (by omega) (fun hf=>?_)
   simp only [Bool.and_eq_true] at hf
   have:=hfull hf.1
   rcases hh2 with ⟨e1,e2,e3⟩| _
   ·omega
   ·split at hf
    ·simp only [bnd,Option.some.injEq] at hhh;omega
    ·exact absurd hf.2 (by simp)
  ·rename_i km m h1 h2 h3
   cases h1;cases h2
   obtain ⟨hiS,h⟩:= cond_some h
   cases h
   obtain ⟨p1,p2,p3,p4⟩:= hp _ (List.mem_singleton.2 rfl)
   obtain ⟨vm,rfl,hm⟩:= hmx _ rfl
   cases hm.unv
   subst p4
   have hh4 : ∃k,hi=some (.int k m):= by
    rcases hh2 with ⟨e1,_,_⟩| e
    ·rw [e1] at hiS;cases hiS
    ·exact e
   have hb:=sliceBounds_run (P:=C.P) (isS:=true) (len:=xs.length) (cap:=cap) (mx:=some (.int km m)) (m:=m) hl3 hh3 (.inr ⟨⟨km,rfl⟩,hh4⟩) p1 p2 (by omega) (by omega) w
   refine ⟨_,sliceAt_slice he hi1 hb, ?_⟩
   rw [hi2]
   exact sl_sub hx (by omega) (by omega) (by omega) (by omega) (fun _=>rfl)
  ·cases h
 case v x =>
  cases x <;> simp only [reduceCtorEq] at h
  case string s =>
  obtain ⟨hc,h⟩: (!isStr C.P t)= false∧_:=by
   cases hb:(!isStr C.P t)
   ·rw [hb,cond_false] at h;exact ⟨rfl,h⟩
   ·rw [hb,cond_true] at h;cases h
  have hst:C.P.underlying t=some .string:=by
   unfold isStr at hc
   split at hc
   ·assumption
   ·cases hc
  cases hx.unv
  cases hl:bnd 0 alo with
  | none=>rw [hl] at h;cases h
  | some l =>
  cases hhh:bnd s.size ahi with
  | none=>rw [hl,hhh] at h;cases h
  | some hh =>
  rw [hl,hhh] at h
  have hl2:=bnd_run hl hlo hlo'
  have hh2:=bnd_run hhh hhi hhi'
  have hl3:(lo=none∧l=0)∨∃k,lo=some (.int k l):= by rcases hl2 with ⟨_,a,b⟩| b;exact .inl ⟨a,b⟩;exact .inr b
  have hh3:(hi=none∧hh=s.size)∨∃k,hi=some (.int k hh):= by rcases hh2 with ⟨_,a,b⟩| b;exact .inl ⟨a,b⟩;exact .inr b
  split at h
  ·rename_i h1 h2 h3
   cases h1;cases h2
   cases h
   obtain ⟨p1,p2,p3⟩:= hp _ (List.mem_singleton.2 rfl)
   cases hmx' rfl
   have hb:=sliceBounds_run (P:=C.P) (isS:=false) (len:=s.size) (cap:=s.size) (mx:=none) (m:=s.size) hl3 hh3 (.inl ⟨rfl,rfl⟩) p1 p2 (by omega) (by omega) w
   refine ⟨_, ?_, .v _⟩
   simp [Instr.sliceAt,Instr.slice,run_underlying hst,hb]
  ·cases h
end
end Go.Aw
