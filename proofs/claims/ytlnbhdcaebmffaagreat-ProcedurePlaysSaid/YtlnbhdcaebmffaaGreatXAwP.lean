/-
  The reckoner's pure operations are the model's (own work).
-/
import Derived.Test.YtlnbhdcaebmffaaGreatXAwS
set_option linter.unusedSimpArgs false
set_option linter.unusedVariables false
namespace Go.Aw
open Go.RowKit
def Does (P:Program) (o:Oper) (a:Act) (w:World) (R:Value→World→Prop): Prop :=
 match (execOp a.eval o).run P w with
 | .ok (.value v) w'=>R v w'
 | .ok .skip w'=>R undef w'
 | .ok (.enter f args) w'=>Calls P f args w' (fun e w'' => ∃v,e = .returned v∧R v w'')
 | _=>False
theorem Does.mono {P:Program} {o:Oper} {a:Act} {w:World} {R R':Value→World→Prop} (h:Does P o a w R) (hr : ∀v w',R v w'→R' v w'): Does P o a w R':=by
 unfold Does at *
 split at h
 ·exact hr _ _ h
 ·exact hr _ _ h
 ·exact h.mono fun e w'' ⟨v,he,hv⟩=> ⟨v,he,hr _ _ hv⟩
 ·exact h.elim
theorem Does.wp {P:Program} {o:Oper} {a:Act} {w:World} {R:Value→World→Prop} {next:Act→World→Prop} {Q:Exit→Act→World→Prop} (h:Does P o a w R) (hn : ∀v w',R v w'→next (a.put o.dst v) w'): o.wp P a w next Q:=by
 unfold Does at h
 unfold Oper.wp Oper.upon
 split at h
 ·rename_i heq;rw [heq];exact hn _ _ h
 ·rename_i heq;rw [heq];exact hn _ _ h
 ·rename_i heq;rw [heq];exact h.mono fun e w'' ⟨v,he,hv⟩=> by subst he;exact hn _ _ hv
 ·exact h.elim
theorem does_value {P:Program} {o:Oper} {a:Act} {w w':World} {v:Value} {R:Value→World→Prop} (h:(execOp a.eval o).run P w = .ok (.value v) w') (hr:R v w'): Does P o a w R:=by
 unfold Does;rw [h];exact hr
theorem does_skip {P:Program} {o:Oper} {a:Act} {w w':World} {R:Value→World→Prop} (h:(execOp a.eval o).run P w = .ok .skip w') (hr:R undef w'): Does P o a w R:=by
 unfold Does;rw [h];exact hr
theorem also_iff (ps:List Prop) (q:Prop): also ps q ↔ (∀p∈ps,p)∧q:=by
 induction ps with
 | nil=>simp [also]
 | cons p ps ih =>
  simp only [also,ih,List.mem_cons,forall_eq_or_imp]
  exact ⟨fun ⟨⟨h⟩,h2,h3⟩=> ⟨⟨h,h2⟩,h3⟩,fun ⟨⟨h,h2⟩,h3⟩=> ⟨⟨h⟩,h2,h3⟩⟩
section
variable {S:Sig} {env:Env} {w:World} {P:Program}
theorem nth_eq {α:Type} (l:List α) (i:Nat): nth l i=l[i]?:=by
 induction l generalizing i with
 | nil=>simp [nth]
 | cons a l ih=>cases i <;> simp [nth,ih]
theorem setN_eq {α:Type} (l:List α) (i:Nat) (x:α): setN l i x=l.set i x:=by
 induction l generalizing i with
 | nil=>simp [setN]
 | cons a l ih=>cases i <;> simp [setN,ih]
theorem cond_some {α:Type} {b:Bool} {x:Option α} {y:α} (h:(bif b then x else none)= some y): b=true∧x=some y:=by
 cases b
 ·simp at h
 ·exact ⟨rfl,by simpa using h⟩
theorem G2.get {cs:List (AV S.El)} {vs:List Value} (h:G2 S env w cs vs) {i:Nat} {x:AV S.El} (hi:cs[i]? = some x): ∃v,vs[i]? = some v∧Γ S env w x v:=by
 have hl:i < cs.length:=(List.getElem?_eq_some_iff.1 hi).1
 have hv:i < vs.length:=by rw [h.1];exact hl
 refine ⟨vs[i],List.getElem?_eq_getElem hv, ?_⟩
 have:=h.2 i
 simpa [List.getD,hi,List.getElem?_eq_getElem hv] using this
theorem cellsOf_sound {x:AV S.El} {v:Value} {cs:List (AV S.El)} (h:cellsOf x=some cs) (hg:Γ S env w x v): G2 S env w cs v.cells.toList:=by
 cases x <;> simp only [cellsOf,Option.some.injEq,reduceCtorEq] at h <;> subst h
 case v x=>cases hg;exact G2.vmap _
 case agg cs=>obtain ⟨vs,rfl,h2⟩:= hg.unagg;exact h2
 case ref i o=>cases hg with | ref _ _ b hb=>exact G2.nil.cons (.ref i o b hb)
 case gs i=>cases hg with | gs _ a n c hb=>exact G2.nil.cons (.gs i a n c hb)
 case sl t xs f=>cases hg with
  | sl _ _ _ b off cap val hf hc hw h=>exact G2.nil.cons (.sl t xs f b off cap val hf hc hw h)
  | slnil=>exact G2.nil.cons (.slnil t f)
  | slemp _ _ a cap hf=>exact G2.nil.cons (.slemp t f a cap hf)
 case clo f c=>cases hg with | clo _ _ vs hn h=>exact G2.nil.cons (.clo f c vs hn h)
theorem cut_sound {cs ds:List (AV S.El)} {vs:List Value} {off n:Nat} (h:cut cs off n=some ds) (hg:G2 S env w cs vs): off+n≤vs.length∧G2 S env w ds ((vs.drop off).take n):= by
 unfold cut at h
 obtain ⟨h1,h2⟩:= cond_some h
 cases h2
 exact ⟨by rw [hg.1];exact Nat.le_of_ble_eq_true h1,(hg.drop off).take n⟩
theorem run_isAgg {t:TypeId} {d:TypeDesc} (h:P.underlying t=some d) (w:World): (isAgg t).run P w = .ok (aggD d) w:=by
 simp only [isAgg,aggD]
 cases d <;> simp [run_underlying h]
theorem run_sizeOf {t:TypeId} {i:TypeInfo} (h:P.info? t=some i) (w:World): (sizeOf t).run P w = .ok i.size w:=by
 simp [sizeOf,typeInfo,h]
def At (w:World) (b o:Nat) (vs:List Value): Prop:=∀k u,vs[k]? = some u→w.cell? ⟨b,o+k,none⟩= some u
theorem At.sub {b o:Nat} {vs:List Value} (h:At w b o vs) (off n:Nat): At w b (o+off) ((vs.drop off).take n):= by
 intro k u hk
 rw [List.getElem?_take] at hk
 split at hk
 ·rw [List.getElem?_drop] at hk
  have:=h _ _ hk
  rwa [←Nat.add_assoc] at this
 ·cases hk
theorem whole_sound {t:TypeId} {cs:List (AV S.El)} {vs:List Value} {off b o:Nat} {x:AV S.El} (h:whole P t cs off=some x) (hg:G2 S env w cs vs) (ha:At w b o vs):
  ∃v,(loadVar t ⟨b,o+off,none⟩).run P w = .ok v w∧Γ S env w x v:=by
 unfold whole at h
 split at h
 ·rename_i d i hd hi
  cases hag:aggD d
  ·rw [hag,cond_false,nth_eq] at h
   obtain ⟨v,hv,hx⟩:= hg.get h
   refine ⟨v, ?_,hx⟩
   simp [loadVar,run_isAgg hd,hag,ha _ _ hv]
  ·rw [hag,cond_true] at h
   cases hc:cut cs off i.size with
   | none=>simp [hc] at h
   | some ds =>
    simp only [hc,Option.map_some,Option.some.injEq] at h
    subst h
    obtain ⟨hl,hg'⟩:= cut_sound hc hg
    have hlen:((vs.drop off).take i.size).length=i.size:=by simp;omega
    have hr:=run_loadCells_list (P:=P) w ⟨b,o+off,none⟩ ((vs.drop off).take i.size) (fun j v hv=>by
     rw [Addr.add_lit];exact ha.sub off i.size j v hv)
    rw [hlen] at hr
    refine ⟨.agg ((vs.drop off).take i.size).toArray, ?_,G2.agg (by simpa using hg')⟩
    simp [loadVar,run_isAgg hd,hag,run_sizeOf hi,hr]
 ·cases h
theorem range_at {b o n:Nat} {val:Nat→Value} (h : ∀k,k < n→w.cell? ⟨b,o+k,none⟩= some (val k)): At w b o ((List.range n).map val):= by
 intro k u hk
 simp only [List.getElem?_map,Option.map_eq_some_iff] at hk
 obtain ⟨j,hj,rfl⟩:= hk
 obtain ⟨hlt,he⟩:= List.getElem?_eq_some_iff.1 hj
 simp only [List.length_range] at hlt
 simp only [List.getElem_range] at he
 subst he
 exact h _ hlt
theorem range_g2 {cs:List (AV S.El)} {n:Nat} {val:Nat→Value} (hn:cs.length=n) (h : ∀j,Γ S env w (cs.getD j .any) (val j)): G2 S env w cs ((List.range n).map val):= by
 refine ⟨by simp [hn],fun j=>?_⟩
 by_cases hj:j < n
 ·have:((List.range n).map val).getD j undef=val j:=by simp [List.getD,List.getElem?_range hj]
  rw [this];exact h j
 ·have:cs.getD j AV.any = .any:=by simp [List.getD,List.getElem?_eq_none (show cs.length≤j by omega)]
  rw [this];exact .any _
variable {B:Nat} {H:List (AObj S.El)}
theorem obj_nth (H:List (AObj S.El)) (i:Nat): obj H i=(H[i]?).getD .gone:=by rw [obj,nth_eq]
theorem loadA_sound {C:Cx} {env:Env} {w:World} {B:Nat} {H:List (AObj C.S.El)} (hS:SigOk C.S) (hI:Inv C.S B env w H) {t:TypeId} {ad r:AV C.S.El} {ps:List Prop} {va:Value} (h:loadA C t H ad=some (ps,r)) (hp : ∀p∈ps,p) (hg:Γ C.S env w ad va):
  ∃v,(Instr.loadAt t va).run C.P w = .ok v w∧Γ C.S env w r v:=by
 cases ad <;> simp only [loadA,reduceCtorEq] at h
 case ref i off =>
  cases hg with | ref _ _ b hb =>
  have ho:=hI.objs i
  cases hobj:obj H i with
  | cells cs =>
   rw [hobj] at h ho
   obtain ⟨b',vs,T,h1,_,h3,h4⟩:= ho
   rw [hb] at h1
   cases h1
   cases hw:whole C.P t cs off with
   | none=>simp [hw] at h
   | some x =>
    simp only [hw,Option.map_some,Option.some.injEq,Prod.mk.injEq] at h
    obtain ⟨rfl,rfl⟩:= h
    obtain ⟨v,hv,hx⟩:= whole_sound (b:=b) (o:=0) hw h4 (fun k u hk=>by
     simp only [World.cell?,h3,Nat.zero_add]
     simpa using hk)
    exact ⟨v,by simpa [Instr.loadAt,Instr.sureAddr] using hv,hx⟩
  | _=>rw [hobj] at h;cases h
 case rg u i idx off =>
  cases hg with | rg _ _ _ _ b n cap bo hb =>
  have ho:=hI.objs i
  cases hobj:obj H i with
  | row v xs =>
   rw [hobj] at h ho
   obtain ⟨hu,h⟩:= cond_some h
   have hu:=Nat.eq_of_beq_eq_true hu
   subst hu
   obtain ⟨u',ws,h1,h2,h3⟩:= ho
   rw [hb] at h1
   cases h1
   cases hw:whole C.P t (C.S.cell u (xs.getD idx (C.S.dflt u))) off with
   | none=>rw [hw] at h;cases h
   | some x =>
    rw [hw] at h
    simp only [Option.map_some,Option.some.injEq,Prod.mk.injEq] at h
    obtain ⟨rfl,rfl⟩:= h
    have hidx:idx < xs.length:=hp _ (by simp)
    obtain ⟨hlen,h2⟩:= h2
    rcases h2 with ⟨h2,_⟩| ⟨g,cap',cur,fz,bo',h2,_,h4,_,_,h5,h6,_⟩
    ·cases h2
    ·cases h2
     have hat:At w b (bo+idx*C.S.sz u) ((ws.drop (idx*C.S.sz u)).take (C.S.sz u)):= by
      have hA:At w b bo ws:=fun k x hk=>by
       simp only [World.cell?,h4]
       subst h6
       rw [List.getElem?_take,List.getElem?_drop] at hk
       split at hk
       ·simpa using hk
       ·cases hk
      simpa using hA.sub (idx*C.S.sz u) (C.S.sz u)
     have hg2:G2 C.S env w (C.S.cell u (xs.getD idx (C.S.dflt u))) ((ws.drop (idx*C.S.sz u)).take (C.S.sz u)):= by
      refine ⟨?_,fun j=>?_⟩
      ·have:(idx+1)* C.S.sz u≤xs.length*C.S.sz u:=Nat.mul_le_mul_right _ hidx
       rw [Nat.add_mul,Nat.one_mul] at this
       simp [hS.len,hlen];omega
      ·by_cases hj:j < C.S.sz u
       ·have:=h3 idx j hidx hj
        rw [show ((ws.drop (idx*C.S.sz u)).take (C.S.sz u)).getD j undef=ws.getD (idx*C.S.sz u+j) undef by simp [List.getD,hj]]
        exact this
       ·have:(C.S.cell u (xs.getD idx (C.S.dflt u))).getD j AV.any = .any:=by
         have:=hS.len u (xs.getD idx (C.S.dflt u))
         generalize C.S.cell u (xs.getD idx (C.S.dflt u))= cs at this ⊢
         rw [List.getD,List.getElem?_eq_none (by omega)];rfl
        rw [this];exact .any _
     obtain ⟨v,hv,hx⟩:= whole_sound hw hg2 hat
     exact ⟨v,by simpa [Instr.loadAt,Instr.sureAddr,Nat.add_assoc] using hv,hx⟩
  | _=>rw [hobj] at h;cases h
 case rp u x off =>
  cases hg with | rp _ _ _ b o val hw hv =>
  cases hwh:whole C.P t (C.S.cell u x) off with
  | none=>simp [hwh] at h
  | some y =>
   simp only [hwh,Option.map_some,Option.some.injEq,Prod.mk.injEq] at h
   obtain ⟨rfl,rfl⟩:= h
   obtain ⟨v,hv,hx⟩:= whole_sound hwh (range_g2 (hS.len u x) hv) (range_at fun k hk=>(hw k hk).1)
   exact ⟨v,by simpa [Instr.loadAt,Instr.sureAddr] using hv,hx⟩
end
end Go.Aw
