import Derived.Test.YtppceadhdckpmaaGreatDoorXAwR
import Derived.Scope
import Derived.WalkKit
import Derived.ProofKit
import Derived.OpenShut
import Derived.Carry
import Derived.SizedLaws
section
/-
  Code and functions (own work).
-/
set_option linter.unusedSimpArgs false
set_option linter.unusedVariables false
namespace Go.Aw
open Go.RowKit
section
variable {C:Cx} {env:Env} {w:World} {B:Nat}
theorem learn_lo (st:St C.S.El) (c:Operand) (b:Bool): (learn st c b).lo=st.lo:=by cases c <;> rfl
theorem Rel.learn {B:Nat} {env:Env} {w:World} {st:St C.S.El} {a:Act} (hr:Rel C B env st a w) {c:Operand} {b:Bool} (hc:a.eval c = .bool b): Rel C B env (learn st c b) a w:=by
 cases c with
 | tmp t =>
  refine ⟨hr.size,hr.defers,fun k=>?_,hr.inv,hr.lo⟩
  show Γ C.S env w (lk ((t, .v (.bool b)):: st.slots) k) _
  simp only [lk]
  cases hk:Nat.beq t k
  ·rw [cond_false];exact hr.slots k
  ·rw [cond_true]
   have:=Nat.eq_of_beq_eq_true hk
   subst this
   have e:a.tmps.getD t undef = .bool b:=hc
   rw [e];exact .v _
 | _=>exact hr
theorem evCode_sound (hC:CxOk C) {inl:Inl C.S.El} (hinl:InlOk C inl) (hplainF : ∀f args H K,inl f args H K→Plain C.P f): ∀(c:Code) (st:St C.S.El) (K:AExit→St C.S.El→Prop) (env:Env) (a:Act) (w:World) (Q:Exit→Act→World→Prop),
  evCode C inl c st K→Rel C B env st a w→Post C B st env w K Q→c.wp C.P Q a w
 | .skip,st,K,env,a,w,Q,h,hr,hQ=>wp_skip (hQ .normal st env a w h hr rfl (Ext.refl _ _ _ _))
 | .ret,st,K,env,a,w,Q,h,hr,hQ=>wp_ret (hQ .ret st env a w h hr rfl (Ext.refl _ _ _ _))
 | .exit id,st,K,env,a,w,Q,h,hr,hQ=>wp_exit (hQ (.exit id) st env a w h hr rfl (Ext.refl _ _ _ _))
 | .region id ops draw,st,K,env,a,w,Q,h,hr,hQ=>by
  cases draw
  ·simp only [evCode] at h
   have hw:=evOps_sound hC hinl hplainF ops.toList (Q:=Q) ops.toList st _ env a w h hr (fun st' env' a' w' h1 h2 h3 h4=>hQ .normal st' env' a' w' h1 h2 h3 h4)
   have:=wp_region_lit (id:=id) hw
   simpa using this
  ·simp only [evCode] at h
   have hc:(edgesOk ops.toList && (apartOk ops.toList (bitsBefore ops.toList) && tailOk ops.toList (bitsBefore ops.toList) (pickM C ops.toList)))= true:=by
    cases hb:(edgesOk ops.toList && (apartOk ops.toList (bitsBefore ops.toList) && tailOk ops.toList (bitsBefore ops.toList) (pickM C ops.toList)))
    ·rw [hb] at h;exact h.elim
    ·rfl
   rw [hc,cond_true] at h
   simp only [Bool.and_eq_true] at hc
   exact draw_sound hC hinl hplainF hc.1 hc.2.1 hc.2.2 h hr fun st' env' a' w' h1 h2 h3 h4=>hQ .normal st' env' a' w' h1 h2 h3 h4
 | .seq x y,st,K,env,a,w,Q,h,hr,hQ=>by
  simp only [evCode] at h
  refine wp_seq (evCode_sound hC hinl hplainF x st _ env a w _ h hr fun e st' env' a' w' h1 h2 h3 h4=>?_)
  cases e with
  | normal=>exact evCode_sound hC hinl hplainF y st' K env' a' w' Q h1 h2 fun e st2 env2 a2 w2 k1 k2 k3 k4=>hQ e st2 env2 a2 w2 k1 k2 (k3.trans h3) (h4.trans (by rw [h3] at k4;exact k4))
  | exit id=>exact hQ (.exit id) st' env' a' w' h1 h2 h3 h4
  | ret=>exact hQ .ret st' env' a' w' h1 h2 h3 h4
 | .cond c x y,st,K,env,a,w,Q,h,hr,hQ=>by
  simp only [evCode] at h
  split at h
  ·rename_i b hb
   have hl:=look_sound hr c
   rw [hb] at hl
   rw [cond_both] at h
   exact wp_cond_split hl.unv (fun ht=>evCode_sound hC hinl hplainF x _ K env a w Q (h.1 ht) (hr.learn (by rw [hl.unv,ht])) fun e st' env' a' w' h1 h2 h3 h4=>hQ e st' env' a' w' h1 h2 (h3.trans (learn_lo _ _ _)) (by rw [learn_lo] at h4;exact h4))
    (fun hf=>evCode_sound hC hinl hplainF y _ K env a w Q (h.2 hf) (hr.learn (by rw [hl.unv,hf])) fun e st' env' a' w' h1 h2 h3 h4=>hQ e st' env' a' w' h1 h2 (h3.trans (learn_lo _ _ _)) (by rw [learn_lo] at h4;exact h4))
  ·exact h.elim
 | .scope b,st,K,env,a,w,Q,h,hr,hQ=>by
  simp only [evCode] at h
  refine wp_scope_straight (evCode_sound hC hinl hplainF b st _ env a w _ h hr fun e st' env' a' w' h1 h2 h3 h4=>?_)
  cases e with
  | normal=>exact hQ .normal st' env' a' w' h1 h2 h3 h4
  | ret=>exact hQ .ret st' env' a' w' h1 h2 h3 h4
  | exit i=>exact hQ (.exit i) st' env' a' w' h1 h2 h3 h4
 | .label l,st,K,env,a,w,Q,h,hr,hQ=>wp_label (hQ .normal st env a w (by simpa only [evCode] using h) hr rfl (Ext.refl _ _ _ _))
 | .block id b,st,K,env,a,w,Q,h,hr,hQ=>by
  simp only [evCode] at h
  refine wp_block (evCode_sound hC hinl hplainF b st _ env a w _ h hr fun e st' env' a' w' h1 h2 h3 h4=>?_)
  cases e with
  | normal=>exact hQ .normal st' env' a' w' h1 h2 h3 h4
  | ret=>exact hQ .ret st' env' a' w' h1 h2 h3 h4
  | exit i =>
   simp only at h1
   cases hi:Nat.beq i id
   ·rw [hi,cond_false] at h1
    have hne : ¬i=id:=fun e=>by subst e;simp at hi
    simp only [exitOf,Exit.inBlock,hne,if_false]
    exact hQ (.exit i) st' env' a' w' h1 h2 h3 h4
   ·rw [hi,cond_true] at h1
    have he:=Nat.eq_of_beq_eq_true hi
    simp only [exitOf,Exit.inBlock,he,if_true]
    exact hQ .normal st' env' a' w' h1 h2 h3 h4
 | .loop b,st,K,env,a,w,Q,h,hr,hQ=>by
  simp only [evCode] at h
  cases hun:unr C b with
  | succ n =>
   rw [hun] at h
   simp only at h
   refine wp_loop_ghost (fun k a' w' => ∃s env',rounds (fun s K'=>evCode C inl b s K') k s K∧Rel C B env' s a' w'∧s.lo=st.lo∧Ext B st.lo env w env' w') (n+1) ⟨st,env,h,hr,rfl,Ext.refl _ _ _ _⟩ ?_
   rintro k a' w' ⟨s,env',h1,h2,h3,h4⟩
   cases k with
   | zero=>exact h1.elim
   | succ k =>
    refine evCode_sound hC hinl hplainF b s _ env' a' w' _ h1 h2 fun e st' env2 a2 w2 k1 k2 k3 k4=>?_
    have k5:Ext B st.lo env w env2 w2:=h4.trans (by rw [h3] at k4;exact k4)
    cases e with
    | normal=>exact ⟨k,Nat.lt_succ_self k,st',env2,k1,k2,k3.trans h3,k5⟩
    | exit id=>exact hQ (.exit id) st' env2 a2 w2 k1 k2 (k3.trans h3) k5
    | ret=>exact hQ .ret st' env2 a2 w2 k1 k2 (k3.trans h3) k5
  | zero =>
  rw [hun] at h
  simp only at h
  obtain ⟨I,n,s0,hI,hle,hround⟩:= h
  obtain ⟨env0,hr0,hE0,hlo0⟩:= hr.ge hC.sig hle
  refine wp_loop_ghost (fun n a' w' => ∃s env',I n s∧Rel C B env' s a' w'∧s.lo=st.lo∧Ext B st.lo env w env' w') n ⟨s0,env0,hI,hr0,hlo0,by rw [hlo0] at hE0;exact hE0⟩ ?_
  rintro n a' w' ⟨s,env',h1,h2,h3,h4⟩
  refine evCode_sound hC hinl hplainF b s _ env' a' w' _ (hround n s h1) h2 fun e st' env2 a2 w2 k1 k2 k3 k4=>?_
  have k5:Ext B st.lo env w env2 w2:=h4.trans (by rw [h3] at k4;exact k4)
  cases e with
  | normal =>
   obtain ⟨m,s2,q1,q2,q3⟩:= k1
   obtain ⟨env3,r1,r2,r3⟩:= k2.ge hC.sig q3
   exact ⟨m,q1,s2,env3,q2,r1,r3.trans (k3.trans h3),k5.trans (by rw [r3,k3,h3] at r2;exact r2)⟩
  | exit id=>exact hQ (.exit id) st' env2 a2 w2 k1 k2 (k3.trans h3) k5
  | ret=>exact hQ .ret st' env2 a2 w2 k1 k2 (k3.trans h3) k5
 | .rangeFunc ..,st,K,env,a,w,Q,h,hr,hQ=>h.elim
 | .goto _,st,K,env,a,w,Q,h,hr,hQ=>h.elim
 | .refuse _,st,K,env,a,w,Q,h,hr,hQ=>h.elim
theorem enum_lk : ∀(l:List (AV C.S.El)) (n t:Nat),lk (enum n l) t=if t < n then .any else l.getD (t - n) .any
 | [],n,t=>by simp [enum,lk]
 | x::l,n,t=>by
  simp only [enum,lk]
  cases h:Nat.beq n t
  ·rw [cond_false,enum_lk l]
   have hne:n≠t:=fun e=>by subst e;simp at h
   by_cases h1:t < n
   ·rw [if_pos (by omega),if_pos h1]
   ·rw [if_neg (by omega),if_neg h1]
    have:t - n=(t - (n+1))+ 1:=by omega
    rw [this,List.getD_cons_succ]
  ·rw [cond_true]
   have:=Nat.eq_of_beq_eq_true h
   subst this
   simp
def resV (tmps:Array Value): ResultVar→Sem Value
 | .tmp t=>pure (tmps.getD t undef)
 | .cell a t=>do loadVar t (←asAddr (tmps.getD a undef))
theorem results_one {st:St C.S.El} {a:Act} (hr:Rel C B env st a w) (hS:SigOk C.S): ∀(r:ResultVar) (x:AV C.S.El),resA C st r=some x→∃v,(resV a.tmps r).run C.P w = .ok v w∧Γ C.S env w x v
 | .tmp t,x,h=>by
  cases h
  exact ⟨_,by simp [resV],hr.slots t⟩
 | .cell ad t,x,h=>by
  simp only [resA] at h
  split at h
  ·rename_i y hy
   cases h
   obtain ⟨v,hv,hx⟩:= loadA_sound hS hr.inv hy (by simp) (hr.slots ad)
   refine ⟨v, ?_,hx⟩
   have hg:=hr.slots ad
   simp only [resV]
   generalize a.tmps.getD ad undef=u at hg hv ⊢
   have : ∃p,u = .pointer (some p):= by
    revert hy hg
    cases lk st.slots ad <;> intro hy hg <;> simp only [loadA,reduceCtorEq] at hy
    ·cases hg;exact ⟨_,rfl⟩
    ·cases hg;exact ⟨_,rfl⟩
    ·cases hg;exact ⟨_,rfl⟩
   obtain ⟨p,rfl⟩:= this
   simpa [Instr.loadAt,Instr.sureAddr,asAddr] using hv
  ·cases h
theorem results_list {st:St C.S.El} {a:Act} (hr:Rel C B env st a w) (hS:SigOk C.S): ∀(rs:List ResultVar) (xs:List (AV C.S.El)),resAll C st rs=some xs→∃vs,(rs.mapM (resV a.tmps)).run C.P w = .ok vs w∧G2 C.S env w xs vs
 | [],xs,h=>by
  cases h
  exact ⟨[],by simp, .nil⟩
 | r::rs,xs,h=>by
  simp only [resAll] at h
  split at h
  ·rename_i x ys hx hys
   cases h
   obtain ⟨v,hv,g1⟩:= results_one hr hS r x hx
   obtain ⟨vs,hvs,g2⟩:= results_list hr hS rs ys hys
   refine ⟨v::vs, ?_,g2.cons g1⟩
   simp only [List.mapM_cons]
   simp [hv,hvs]
  ·cases h
theorem results_sound {st:St C.S.El} {a:Act} (hr:Rel C B env st a w) (hS:SigOk C.S) {fn:Func} {r:AV C.S.El} (h:resultsA C fn st=some r): ∃v,(results fn a.tmps).run C.P w = .ok v w∧Γ C.S env w r v:=by
 have hrun:results fn a.tmps=(do let vs ←fn.results.mapM (resV a.tmps);pure (if h:vs.size=1 then vs[0] else .tuple vs): Sem Value):= by
  have e:(fun r=>match r with | .tmp t=>(pure (a.tmps.getD t undef): Sem Value)| .cell ad t=>do loadVar t (←asAddr (a.tmps.getD ad undef)))= resV a.tmps:=by
   funext r;cases r <;> rfl
  unfold results
  rw [←e]
  rfl
 unfold resultsA at h
 rw [hrun,Array.mapM_eq_mapM_toList]
 split at h
 ·rename_i r0 hr0
  obtain ⟨v,hv,hx⟩:= results_one hr hS r0 r h
  refine ⟨v, ?_,hx⟩
  rw [hr0]
  simp [hv]
 ·rename_i rs hne
  simp only [Option.map_eq_some_iff] at h
  obtain ⟨xs,hxs,rfl⟩:= h
  obtain ⟨vs,hvs,hg⟩:= results_list hr hS _ xs hxs
  have hll : ∀(rs:List ResultVar) (xs:List (AV C.S.El)),resAll C st rs=some xs→xs.length=rs.length:=by
   intro rs
   induction rs with
   | nil=>intro xs h;cases h;rfl
   | cons r rs ih =>
    intro xs h
    simp only [resAll] at h
    split at h
    ·rename_i x ys hx hys
     cases h
     simp [ih ys hys]
    ·cases h
  have hlen : ¬vs.length=1:=by
   intro h1
   have h2:=hll _ _ hxs
   rw [←hg.1,h1] at h2
   match hm:fn.results.toList,h2 with
   | [r0],_=>exact hne r0 hm
  exact ⟨.tuple vs.toArray,by simp [hvs,hlen], .tup xs vs.toArray (by simpa using hg.1) (by simpa using hg.2)⟩
theorem evFun_sound (hC:CxOk C): ∀fuel,InlOk C (evFun C fuel)∧∀f args H K,evFun C fuel f args H K→Plain C.P f
 | 0=>⟨fun f args H K h=>h.elim,fun f args H K h=>h.elim⟩
 | fuel+1=>by
  obtain ⟨ih1,ih2⟩:= evFun_sound hC fuel
  refine ⟨fun f args H K h B env w vals hg hI=>?_,fun f args H K h=>?_⟩
  ·simp only [evFun] at h
   split at h
   ·rename_i ps r H' hsum
    obtain ⟨hp,hK⟩:= (also_iff _ _).1 h
    refine ((hC.sum f args H ps r H' hsum).2 hp B env w vals hg hI).mono ?_
    rintro e w' ⟨v,env',he,h1,h2,h3,h4⟩
    exact ⟨v,env',r,H',he,hK,h1,h2,h3,h4⟩
   split at h
   ·exact h.elim
   ·rename_i fn hF
    split at h
    ·exact h.elim
    ·rename_i c hbody
     have hfn:=hC.fn f fn hF
     let st:St C.S.El:={lo:=H.length,slots:=enum 0 args,n:=bif Nat.ble args.length fn.ntmps then fn.ntmps else args.length,objs:=H}
     have hvl:vals.toArray.size=args.length:=by simpa using hg.1
     refine calls_of_wp hfn.1 hbody ?_
     have hr:Rel C B env st {tmps:=vals.toArray ++ Array.replicate (fn.ntmps - vals.toArray.size) undef,defers:=[]} w:=by
      refine ⟨?_,rfl,fun t=>?_,hI,Nat.le_refl _⟩
      ·simp only [Array.size_append,Array.size_replicate,st]
       rw [hvl]
       cases hb:Nat.ble args.length fn.ntmps
       ·rw [cond_false]
        have : ¬args.length≤fn.ntmps:=fun h=>by rw [Nat.ble_eq_true_of_le h] at hb;cases hb
        omega
       ·rw [cond_true]
        have:=Nat.le_of_ble_eq_true hb
        omega
      ·simp only [st,enum_lk,Nat.not_lt_zero,if_false,Nat.sub_zero]
       have hj:=hg.2 t
       by_cases ht:t < args.length
       ·have e1:(vals.toArray ++ Array.replicate (fn.ntmps - vals.toArray.size) undef).getD t undef=vals.getD t undef:=by
         rw [Array.getD_eq_getD_getElem?,Array.getElem?_append_left (by rw [hvl];exact ht)]
         simp [List.getD]
        rw [e1];exact hj
       ·have e2:args.getD t AV.any = .any:=by simp [List.getD,List.getElem?_eq_none (Nat.le_of_not_lt ht)]
        rw [e2];exact .any _
     refine evCode_sound hC ih1 ih2 c st _ env _ w _ h hr fun e st' env' a' w' h1 h2 h3 h4=>?_
     have hend:(match resultsA C fn st' with | some r=>retK C H.length r st'.objs K | none=>False)→∃v,(results fn a'.tmps).run C.P w' = .ok v w'∧∃v0 env' r H',Ending.returned v = .returned v0∧K r H'∧Γ C.S env' w' r v0∧Inv C.S B env' w' H'∧Ext B H.length env w env' w'∧H.length≤H'.length:=by
      intro hk
      split at hk
      ·rename_i r hres
       obtain ⟨v,hv,hx⟩:= results_sound h2 hC.sig hres
       have hlo:H.length≤st'.objs.length:=by have:=h2.lo;rw [h3] at this;exact this
       obtain ⟨env2,r2,H2,k1,k2,k3,k4,k5⟩:= retK_rel hC.sig hk hlo hx h2.inv
       exact ⟨v,hv,v,env2,r2,H2,rfl,k1,k2,k3,h4.trans k4,k5⟩
      ·exact hk.elim
     cases e with
     | exit id=>exact h1.elim
     | normal =>
      obtain ⟨v,hv,hR⟩:= hend h1
      exact ⟨h2.defers,v,hv,hR⟩
     | ret =>
      obtain ⟨v,hv,hR⟩:= hend h1
      exact ⟨h2.defers,v,hv,hR⟩
  ·simp only [evFun] at h
   split at h
   ·rename_i ps r H' hsum
    exact (hC.sum f args H ps r H' hsum).1
   split at h
   ·exact h.elim
   ·rename_i fn hF
    split at h
    ·exact h.elim
    ·rename_i c hbody
     have hfn:=hC.fn f fn hF
     exact ⟨fn,hfn.1,hfn.2,by rw [hbody];rfl⟩
end
end Go.Aw
end
section
/-
  A contract out of the reckoning of a function's body (own work).
-/
set_option linter.unusedSimpArgs false
set_option linter.unusedVariables false
namespace Go.Aw
open Go.RowKit
section
variable {C:Cx} {env env':Env} {w w':World} {B n:Nat} {H':List (AObj C.S.El)}
def envX (env env':Env) (n:Nat) (F:List Nat): Env:=⟨fun i=>if i < n then env.val i else (F[i - n]?).bind env'.val,env'.prot⟩
theorem closed0 (hS:SigOk C.S) {F:List Nat} {x:AV C.S.El} {v:Value} (h:Γ C.S env' w' x v) (hl:lt0 0 x=true): Γ C.S (envX env env' n F) w' x v :=
 Γ.lt0 (env:=env') (env':=envX env env' n F) (w:=w') (w':=w') hS (n:=0) (fun i v hi=>by omega) (fun b o hp=>⟨hp,rfl⟩) h hl
theorem exp0_sound (hS:SigOk C.S) (hI:Inv C.S B env' w' H') {ids ids':List Nat} {x y:AV C.S.El} {v:Value} (he:exp0 H' ids x=(ids',y)) (hx:Γ C.S env' w' x v): ids <+: ids'∧∀F,ids' <+: F→Γ C.S (envX env env' n F) w' (sh n y) v:=by
 cases x <;> simp only [exp0,Prod.mk.injEq] at he
 case v x=>obtain ⟨rfl,rfl⟩:= he;cases hx.unv;exact ⟨List.prefix_refl _,fun F _ => .v _⟩
 case sl t xs f=>obtain ⟨rfl,rfl⟩:= he;exact ⟨List.prefix_refl _,fun F _=>closed0 hS hx rfl⟩
 case fm k ks vs =>
  obtain ⟨rfl,rfl⟩:= he
  refine ⟨List.prefix_refl _,fun F _=>?_⟩
  cases hc:vs.all cl1
  ·exact .any _
  ·exact closed0 hS hx hc
 case gs i =>
  cases hx with | gs _ a m c hv =>
  have ho:=hI.objs i
  cases hobj:obj H' i with
  | row t xs =>
   rw [hobj] at he
   simp only at he
   cases hc:ids.contains i
   ·rw [hc,cond_false] at he
    cases he
    refine ⟨List.prefix_append _ _,fun F hF=>?_⟩
    simp only [sh]
    refine .gs _ a m c ?_
    simp only [envX]
    rw [if_neg (by omega),show n+ids.length - n=ids.length by omega]
    obtain ⟨G,rfl⟩:= hF
    simp [hv]
   ·rw [hc,cond_true] at he
    cases he
    exact ⟨List.prefix_refl _,fun F _ => .any _⟩
  | frozen t xs =>
   rw [hobj] at he ho
   cases he
   obtain ⟨u,h1,h2⟩:= ho
   rw [hv] at h1;cases h1
   exact ⟨List.prefix_refl _,fun F _=>closed0 hS h2 rfl⟩
  | _=>rw [hobj] at he;cases he;exact ⟨List.prefix_refl _,fun F _ => .any _⟩
 all_goals (obtain ⟨rfl,rfl⟩:= he;exact ⟨List.prefix_refl _,fun F _ => .any _⟩)
theorem expL_sound (hS:SigOk C.S) (hI:Inv C.S B env' w' H'): ∀(xs ys:List (AV C.S.El)) (ids ids':List Nat) (vs:List Value),expL H' ids xs=(ids',ys)→G2 C.S env' w' xs vs→ids <+: ids'∧∀F,ids' <+: F→G2 C.S (envX env env' n F) w' (ys.map (sh n)) vs
 | [],ys,ids,ids',vs,he,hg=>by
  cases he
  have:vs=[]:= List.eq_nil_of_length_eq_zero hg.1
  subst this
  exact ⟨List.prefix_refl _,fun F _ => .nil⟩
 | x::xs,ys,ids,ids',vs,he,hg=>by
  obtain ⟨u,us,rfl,g1,g2⟩:= hg.uncons
  simp only [expL] at he
  obtain ⟨p1,q1⟩:= exp0_sound (env:=env) (n:=n) hS hI (ids:=ids) (ids':=(exp0 H' ids x).1) (y:=(exp0 H' ids x).2) rfl g1
  obtain ⟨p2,q2⟩:= expL_sound hS hI xs (expL H' (exp0 H' ids x).1 xs).2 (exp0 H' ids x).1 (expL H' (exp0 H' ids x).1 xs).1 us rfl g2
  cases he
  exact ⟨p1.trans p2,fun F hF=>(q2 F hF).cons (q1 F (p2.trans hF))⟩
theorem exp0_flat (H:List (AObj C.S.El)) (ids:List Nat) (x:AV C.S.El): sh1 n (exp0 H ids x).2=sh n (exp0 H ids x).2:=by
 cases x
 case gs i =>
  simp only [exp0]
  cases obj H i <;> simp only [] <;> try rfl
  cases ids.contains i <;> rfl
 case fm k ks vs =>
  simp only [exp0]
  cases vs.all cl1 <;> rfl
 all_goals rfl
theorem exp0_flat2 (H:List (AObj C.S.El)) (ids:List Nat) (x:AV C.S.El): sh2 n (exp0 H ids x).2=sh1 n (exp0 H ids x).2:=by
 cases x
 case gs i =>
  simp only [exp0]
  cases obj H i <;> simp only [] <;> try rfl
  cases ids.contains i <;> rfl
 case fm k ks vs =>
  simp only [exp0]
  cases vs.all cl1 <;> rfl
 all_goals rfl
theorem exp1_flat (H:List (AObj C.S.El)) (ids:List Nat) (x:AV C.S.El): sh2 n (exp1 H ids x).2=sh1 n (exp1 H ids x).2:=by
 cases x
 case agg cs=>rfl
 all_goals exact exp0_flat2 H ids _
theorem exp1_sound (hS:SigOk C.S) (hI:Inv C.S B env' w' H') {ids ids':List Nat} {x y:AV C.S.El} {v:Value} (he:exp1 H' ids x=(ids',y)) (hx:Γ C.S env' w' x v): ids <+: ids'∧∀F,ids' <+: F→Γ C.S (envX env env' n F) w' (sh1 n y) v:=by
 cases x
 case agg cs =>
  obtain ⟨vs,rfl,hvs⟩:= hx.unagg
  simp only [exp1] at he
  obtain ⟨p,q⟩:= expL_sound (env:=env) (n:=n) hS hI cs (expL H' ids cs).2 ids (expL H' ids cs).1 vs.toList rfl hvs
  cases he
  exact ⟨p,fun F hF=>G2.agg (q F hF)⟩
 all_goals
  simp only [exp1] at he
  obtain ⟨p,q⟩:= exp0_sound (env:=env) (n:=n) hS hI he hx
  refine ⟨p,fun F hF=>?_⟩
  have hq:=q F hF
  have hfl:=exp0_flat (n:=n) (C:=C) H' ids
  rw [show y=_ from (congrArg Prod.snd he).symm] at hq ⊢
  rw [hfl];exact hq
theorem expL1_sound (hS:SigOk C.S) (hI:Inv C.S B env' w' H'): ∀(xs ys:List (AV C.S.El)) (ids ids':List Nat) (vs:List Value),expL1 H' ids xs=(ids',ys)→G2 C.S env' w' xs vs→ids <+: ids'∧∀F,ids' <+: F→G2 C.S (envX env env' n F) w' (ys.map (sh1 n)) vs
 | [],ys,ids,ids',vs,he,hg=>by
  cases he
  have:vs=[]:= List.eq_nil_of_length_eq_zero hg.1
  subst this
  exact ⟨List.prefix_refl _,fun F _ => .nil⟩
 | x::xs,ys,ids,ids',vs,he,hg=>by
  obtain ⟨u,us,rfl,g1,g2⟩:= hg.uncons
  simp only [expL1] at he
  obtain ⟨p1,q1⟩:= exp1_sound (env:=env) (n:=n) hS hI (ids:=ids) (ids':=(exp1 H' ids x).1) (y:=(exp1 H' ids x).2) rfl g1
  obtain ⟨p2,q2⟩:= expL1_sound hS hI xs (expL1 H' (exp1 H' ids x).1 xs).2 (exp1 H' ids x).1 (expL1 H' (exp1 H' ids x).1 xs).1 us rfl g2
  cases he
  exact ⟨p1.trans p2,fun F hF=>(q2 F hF).cons (q1 F (p2.trans hF))⟩
theorem exp2_sound (hS:SigOk C.S) (hI:Inv C.S B env' w' H') {x:AV C.S.El} {v:Value} (hx:Γ C.S env' w' x v): Γ C.S (envX env env' n (exp2 H' x).1) w' (sh2 n (exp2 H' x).2) v:=by
 cases x
 case tup cs =>
  obtain ⟨vs,rfl,hvs⟩:= hx.untup
  obtain ⟨_,q⟩:= expL1_sound (env:=env) (n:=n) hS hI cs (expL1 H' [] cs).2 [] (expL1 H' [] cs).1 vs.toList rfl hvs
  have:=q _ (List.prefix_refl _)
  simp only [exp2,sh2]
  exact .tup _ _ (by simpa using this.1) this.2
 all_goals
  simp only [exp2]
  rw [exp1_flat]
  exact (exp1_sound (env:=env) (n:=n) hS hI rfl hx).2 _ (List.prefix_refl _)
def IdsOk (H:List (AObj C.S.El)) (ids:List Nat): Prop:=ids.Nodup∧∀i∈ids,∃t xs,obj H i = .row t xs
theorem exp0_ids {H:List (AObj C.S.El)} {ids:List Nat} (x:AV C.S.El) (h:IdsOk H ids): IdsOk H (exp0 H ids x).1:=by
 cases x <;> simp only [exp0] <;> try exact h
 rename_i i
 cases hobj:obj H i with
 | row t xs =>
  simp only []
  cases hc:ids.contains i
  ·rw [cond_false]
   have hni:i∉ids:=by intro hm;rw [List.contains_iff_mem.2 hm] at hc;cases hc
   refine ⟨List.nodup_append.2 ⟨h.1,by simp, ?_⟩,fun j hj=>?_⟩
   ·intro a ha b hb;simp only [List.mem_singleton] at hb;subst hb;exact fun e=>hni (e ▸ ha)
   ·rcases List.mem_append.1 hj with hj | hj
    ·exact h.2 j hj
    ·simp only [List.mem_singleton] at hj;subst hj;exact ⟨t,xs,hobj⟩
  ·rw [cond_true];exact h
 | _=>exact h
theorem expL_ids {H:List (AObj C.S.El)}: ∀(xs:List (AV C.S.El)) {ids:List Nat},IdsOk H ids→IdsOk H (expL H ids xs).1
 | [],ids,h=>h
 | x::xs,ids,h=>expL_ids xs (exp0_ids x h)
theorem exp1_ids {H:List (AObj C.S.El)} {ids:List Nat} (x:AV C.S.El) (h:IdsOk H ids): IdsOk H (exp1 H ids x).1:=by
 cases x
 case agg cs=>exact expL_ids cs h
 all_goals exact exp0_ids _ h
theorem expL1_ids {H:List (AObj C.S.El)}: ∀(xs:List (AV C.S.El)) {ids:List Nat},IdsOk H ids→IdsOk H (expL1 H ids xs).1
 | [],ids,h=>h
 | x::xs,ids,h=>expL1_ids xs (exp1_ids x h)
theorem exp2_ids {H:List (AObj C.S.El)} (x:AV C.S.El): IdsOk H (exp2 H x).1:=by
 have h0:IdsOk H []:= ⟨List.nodup_nil,by simp⟩
 cases x
 case tup cs=>exact expL1_ids cs h0
 all_goals exact exp1_ids _ h0
theorem Inv.protect (hI:Inv C.S B env w H') (c:Nat) (h1:B≤c) (h2:c < w.heap.size) (h3 : ∀j u,live (obj H' j)= true→env.val j=some u→blkV u≠some c):
  Inv C.S B ⟨env.val,fun b o=>env.prot b o∨b=c⟩ w H'∧Ext B H'.length env w ⟨env.val,fun b o=>env.prot b o∨b=c⟩ w:=by
 have hE:Ext B H'.length env w ⟨env.val,fun b o=>env.prot b o∨b=c⟩ w:=⟨Below.refl _ _,fun _ _ _ h=>h,fun _ _ h => .inl h,fun _ _ _=>rfl,fun b o h=>h.imp id fun h=>by rw [h];exact h1⟩
 refine ⟨hI.ext hE (fun _ _ h=>h) (fun _ _ _ _ _ _=>rfl) (fun i u b o e1 e2 e3 hp=>?_) (fun b o hp=>?_),hE⟩
 ·rcases hp with hp | rfl
  ·exact hp
  ·exact absurd e3 (h3 i u e1 e2)
 ·rcases hp with hp | rfl
  ·exact hI.inheap b o hp
  ·exact h2
theorem freezeAll_mp {i:Nat} {k:IntKind} {ks:List Int} {vs:List (AV C.S.El)}: ∀(l:List Nat) (H:List (AObj C.S.El)),obj H i = .mp k ks vs→obj (freezeAll H l) i = .mp k ks vs
 | [],H,h=>h
 | j::l,H,h=>by
  refine freezeAll_mp l (freeze1 H j) ?_
  rw [freeze1_obj,h]
  split <;> rfl
theorem fit0_sound {x r:AV C.S.El} {v:Value} (h:Γ C.S env w r v): Γ C.S env w (fit0 x r) v:=by
 unfold fit0
 split
 ·cases h.unv;exact .slnil _ _
 ·exact h.unfull
 ·exact h
theorem fitL_sound : ∀(xs rs:List (AV C.S.El)) (vs:List Value),G2 C.S env w rs vs→G2 C.S env w (fitL xs rs) vs
 | [],rs,vs,h=>by cases rs <;> simpa [fitL] using h
 | x::xs,[],vs,h=>by simpa [fitL] using h
 | x::xs,r::rs,vs,h=>by
  obtain ⟨u,us,rfl,h1,h2⟩:= h.uncons
  exact (fitL_sound xs rs us h2).cons (fit0_sound h1)
theorem fit1_sound {x r:AV C.S.El} {v:Value} (h:Γ C.S env w r v): Γ C.S env w (fit1 x r) v:=by
 unfold fit1
 split
 ·obtain ⟨vs,rfl,hvs⟩:= h.unagg
  exact G2.agg (fitL_sound _ _ _ hvs)
 ·exact fit0_sound h
theorem fitL1_sound : ∀(xs rs:List (AV C.S.El)) (vs:List Value),G2 C.S env w rs vs→G2 C.S env w (fitL1 xs rs) vs
 | [],rs,vs,h=>by cases rs <;> simpa [fitL1] using h
 | x::xs,[],vs,h=>by simpa [fitL1] using h
 | x::xs,r::rs,vs,h=>by
  obtain ⟨u,us,rfl,h1,h2⟩:= h.uncons
  exact (fitL1_sound xs rs us h2).cons (fit1_sound h1)
theorem freezeMap (hS:SigOk C.S) (hI:Inv C.S B env w H') {i:Nat} {k:IntKind} {ks:List Int} {vs:List (AV C.S.El)} (hobj:obj H' i = .mp k ks vs) {v:Value} (ws:List (AV C.S.El)) (h:Γ C.S env w (.gm i) v):
  ∃env2,Γ C.S env2 w (.fm k ks (fitL1 ws (vs.map (deref1 H')))) v∧Inv C.S B env2 w (setN (freezeAll H' (vs.flatMap owns1)) i .gone)∧Ext B H'.length env w env2 w∧H'.length≤(setN (freezeAll H' (vs.flatMap owns1)) i .gone).length:=by
 obtain ⟨e1,v1,I1,E1,l1,f1⟩:= freezeAll_sound hS (vs.flatMap owns1) env H' hI
 have hob:=freezeAll_mp (vs.flatMap owns1) H' hobj
 have hi:i < (freezeAll H' (vs.flatMap owns1)).length:=obj_lt (by rw [hob];simp)
 cases h with | gm _ b hv =>
 have hv1:e1.val i=some (.map (some b)):= by rw [v1];exact hv
 have ho:=I1.objs i
 rw [hob] at ho
 obtain ⟨b',es,ck,q1,hB,hb,hkeys,hvals⟩:= ho
 rw [hv1] at q1;cases q1
 have hg:G2 C.S e1 w (vs.map (deref1 H')) (es.toList.map (·.val)):= by
  have e:vs.map (deref1 H')= vs.map (deref1 (freezeAll H' (vs.flatMap owns1))):= by
   refine List.map_congr_left fun x _=>?_
   have hd:deref (freezeAll H' (vs.flatMap owns1))= deref H':=funext fun x=>freezeAll_deref _ H' x
   cases x <;> simp only [deref1,hd]
  rw [e]
  exact G2.map_av _ _ hvals fun x hx v hv=>deref1_sound I1 hv fun j hj=>f1 j (List.mem_flatMap.2 ⟨x,hx,hj⟩)
 have hgone : ∀j,live (obj (setN (freezeAll H' (vs.flatMap owns1)) i .gone) j)= true→live (obj (freezeAll H' (vs.flatMap owns1)) j)= true∧i≠j:=by
  intro j h
  rw [obj_set _ _ _ _ hi] at h
  by_cases h':i=j
  ·rw [if_pos h'] at h;cases h
  ·rw [if_neg h'] at h;exact ⟨h,h'⟩
 obtain ⟨I2,E2⟩:= (I1.forget i).protect b hB (Array.getElem?_eq_some_iff.1 hb).1 (fun j u hl hu he=>(hgone j hl).2 (I1.apart i j _ u b (by rw [hob];rfl) (hgone j hl).1 hv1 hu rfl he))
 have hlen:(setN (freezeAll H' (vs.flatMap owns1)) i .gone).length=H'.length:=by rw [setN_eq,List.length_set,l1]
 refine ⟨_, ?_,I2,E1.trans (by rw [hlen] at E2;exact E2),by rw [hlen];exact Nat.le_refl _⟩
 have hg2:=fitL1_sound ws _ _ (hg.ext E2 (fun i v h=>by rw [hlen,←l1];exact I1.fresh i v h))
 exact .fm k ks _ b es ck hb (.inr rfl) hkeys (by simpa using hg2.1) hg2.2
theorem Γ.lessfull {u:TypeId} {xs:List (C.S.El u)} {g:Bool} {v:Value} (h:Γ C.S env w (.sl u xs g) v) (f:Bool): Γ C.S env w (.sl u xs (g && f)) v:=by
 cases f
 ·rw [Bool.and_false];exact h.unfull
 ·rw [Bool.and_true];exact h
theorem prep0_sound (hS:SigOk C.S) (hI:Inv C.S B env w H') (news:List (AObj C.S.El)) (x:AV C.S.El) {r:AV C.S.El} {v:Value} (h:Γ C.S env w r v):
  ∃env2,Γ C.S env2 w (prep0 news x r H').1 v∧Inv C.S B env2 w (prep0 news x r H').2∧Ext B H'.length env w env2 w∧H'.length≤(prep0 news x r H').2.length:=by
 have same : ∃env2,Γ C.S env2 w r v∧Inv C.S B env2 w H'∧Ext B H'.length env w env2 w∧H'.length≤H'.length:=⟨env,h,hI,Ext.refl _ _ _ _,Nat.le_refl _⟩
 unfold prep0
 split
 ·split
  ·split
   ·rename_i k _ t xs hn
    cases h.unv
    obtain ⟨h1,h2⟩:= push_obj (w':=w) (u:=.slice none 0 0) (o:=.row t []) hI (Below.refl _ _) (fun _ _ _=>rfl) (fun _ _ _ _ _ _=>rfl) (fun b hb=>by cases hb)
     ⟨_,[],rfl,⟨by simp, .inl ⟨rfl,rfl⟩⟩,fun i j hi=>by simp at hi⟩
    exact ⟨_, .gs _ none 0 0 (by simp),h1,h2,by simp⟩
   ·exact same
  ·exact same
 ·split
  ·cases h.unv
   exact ⟨env, .slnil _ _,hI,Ext.refl _ _ _ _,Nat.le_refl _⟩
  ·skip
   exact ⟨env,h.lessfull _,hI,Ext.refl _ _ _ _,Nat.le_refl _⟩
  ·rename_i i
   split
   ·rename_i u xs hobj
    obtain ⟨e1,v1,I1,E1,l1⟩:= freeze_one hS hI i
    have hd:=deref_sound I1 (h.ext E1 hI.fresh) (fun j hj t ys=>by
     simp only [owns,List.mem_singleton] at hj
     subst hj
     rw [freeze1_obj,if_pos rfl,hobj];simp)
    simp only [deref,freeze1_obj,if_true,hobj] at hd
    exact ⟨e1,hd,I1,E1,by rw [l1];exact Nat.le_refl _⟩
   ·rename_i u xs hobj
    have hd:=deref_sound hI h (fun j hj t ys=>by
     simp only [owns,List.mem_singleton] at hj
     subst hj
     rw [hobj];simp)
    simp only [deref,hobj] at hd
    exact ⟨env,hd,hI,Ext.refl _ _ _ _,Nat.le_refl _⟩
   ·exact same
  ·exact same
 ·split
  ·split
   ·rename_i hobj
    exact freezeMap hS hI hobj _ h
   ·exact same
  ·exact same
 ·exact same
theorem prepL_sound (hS:SigOk C.S) (news:List (AObj C.S.El)): ∀(xs rs:List (AV C.S.El)) (H':List (AObj C.S.El)) (env:Env) (vs:List Value),Inv C.S B env w H'→G2 C.S env w rs vs→
  ∃env2,G2 C.S env2 w (prepL news xs rs H').1 vs∧Inv C.S B env2 w (prepL news xs rs H').2∧Ext B H'.length env w env2 w∧H'.length≤(prepL news xs rs H').2.length
 | [],rs,H',env,vs,hI,hg=>by
  have:prepL news [] rs H'=(rs,H'):= by cases rs <;> rfl
  rw [this]
  exact ⟨env,hg,hI,Ext.refl _ _ _ _,Nat.le_refl _⟩
 | x::xs,[],H',env,vs,hI,hg=>⟨env,hg,hI,Ext.refl _ _ _ _,Nat.le_refl _⟩
 | x::xs,r::rs,H',env,vs,hI,hg=>by
  obtain ⟨u,us,rfl,g1,g2⟩:= hg.uncons
  obtain ⟨e1,q1,I1,E1,l1⟩:= prep0_sound hS hI news x g1
  obtain ⟨e2,q2,I2,E2,l2⟩:= prepL_sound hS news xs rs _ e1 us I1 (g2.ext E1 hI.fresh)
  exact ⟨e2,q2.cons (q1.ext E2 I1.fresh),I2,E1.trans (E2.mono l1),Nat.le_trans l1 l2⟩
theorem prep1_sound (hS:SigOk C.S) (hI:Inv C.S B env w H') (news:List (AObj C.S.El)) (x:AV C.S.El) {r:AV C.S.El} {v:Value} (h:Γ C.S env w r v):
  ∃env2,Γ C.S env2 w (prep1 news x r H').1 v∧Inv C.S B env2 w (prep1 news x r H').2∧Ext B H'.length env w env2 w∧H'.length≤(prep1 news x r H').2.length:=by
 unfold prep1
 split
 ·obtain ⟨vs,rfl,hvs⟩:= h.unagg
  obtain ⟨e2,q1,q2,q3,q4⟩:= prepL_sound hS news _ _ H' env vs.toList hI hvs
  exact ⟨e2,G2.agg q1,q2,q3,q4⟩
 ·exact prep0_sound hS hI news _ h
theorem prepL1_sound (hS:SigOk C.S) (news:List (AObj C.S.El)): ∀(xs rs:List (AV C.S.El)) (H':List (AObj C.S.El)) (env:Env) (vs:List Value),Inv C.S B env w H'→G2 C.S env w rs vs→
  ∃env2,G2 C.S env2 w (prepL1 news xs rs H').1 vs∧Inv C.S B env2 w (prepL1 news xs rs H').2∧Ext B H'.length env w env2 w∧H'.length≤(prepL1 news xs rs H').2.length
 | [],rs,H',env,vs,hI,hg=>by
  have:prepL1 news [] rs H'=(rs,H'):= by cases rs <;> rfl
  rw [this]
  exact ⟨env,hg,hI,Ext.refl _ _ _ _,Nat.le_refl _⟩
 | x::xs,[],H',env,vs,hI,hg=>⟨env,hg,hI,Ext.refl _ _ _ _,Nat.le_refl _⟩
 | x::xs,r::rs,H',env,vs,hI,hg=>by
  obtain ⟨u,us,rfl,g1,g2⟩:= hg.uncons
  obtain ⟨e1,q1,I1,E1,l1⟩:= prep1_sound hS hI news x g1
  obtain ⟨e2,q2,I2,E2,l2⟩:= prepL1_sound hS news xs rs _ e1 us I1 (g2.ext E1 hI.fresh)
  exact ⟨e2,q2.cons (q1.ext E2 I1.fresh),I2,E1.trans (E2.mono l1),Nat.le_trans l1 l2⟩
theorem prep2_sound (hS:SigOk C.S) (hI:Inv C.S B env w H') (news:List (AObj C.S.El)) (x:AV C.S.El) {r:AV C.S.El} {v:Value} (h:Γ C.S env w r v):
  ∃env2,Γ C.S env2 w (prep2 news x r H').1 v∧Inv C.S B env2 w (prep2 news x r H').2∧Ext B H'.length env w env2 w∧H'.length≤(prep2 news x r H').2.length:=by
 unfold prep2
 split
 ·obtain ⟨vs,rfl,hvs⟩:= h.untup
  obtain ⟨e2,q1,q2,q3,q4⟩:= prepL1_sound hS news _ _ H' env vs.toList hI hvs
  exact ⟨e2, .tup _ _ (by simpa using q1.1) q1.2,q2,q3,q4⟩
 ·exact prep1_sound hS hI news _ h
theorem ct_of_fun (hC:CxOk C) {f:FuncId} {ct:Ct C.S.El} (fuel:Nat) (h : ∀args ps r news,ct args=some (ps,r,news)→(∀p∈ps,p)→evFun C fuel f args [] fun r' H'=>Gives r' H' r news): CtOk C f ct:=by
 intro args ps r news hct hp hcl B env w H vals hg hI
 have hS:=hC.sig
 let env2:Env:=⟨fun _=>none,env.prot⟩
 have hg2:G2 C.S env2 w args vals:=⟨hg.1,fun j=>by
  have:=hg.2 j
  simp only [List.getD] at this ⊢
  cases hc:args[j]? with
  | none=>simpa using Γ.any (S:=C.S) _
  | some c =>
   rw [hc] at this
   have hc1:=(List.all_eq_true.1 hcl) c (List.mem_of_getElem? hc)
   refine Γ.lt2 (env:=env) (env':=env2) hS (n:=0) (fun i v hi=>by omega) (fun _ _ h=>h) this ?_
   cases c <;> simp_all [lt1,lt2,lt0]⟩
 have hI2:Inv C.S w.heap.size env2 w []:= ⟨fun i=>by simp [obj_nth,ObjOk],fun i v b hl=>by simp [obj_nth,live] at hl,fun i j u v b hl=>by simp [obj_nth,live] at hl,hI.inheap,fun i v h=>by simp [env2] at h,
  fun g=>Γ.lt2 (env:=env) (env':=env2) hS (n:=0) (fun i v hi=>by omega) (fun _ _ h=>h) (hI.glob g) (hS.gl g),Nat.le_refl _⟩
 refine ((evFun_sound hC fuel).1 f args [] _ (h args ps r news hct hp) w.heap.size env2 w vals hg2 hI2).mono ?_
 rintro e w' ⟨v,env0,r0,H0,he,⟨hr,hnews⟩,hΓ0,hI0,hE0,_⟩
 obtain ⟨env',hΓ,hI',hE1,_⟩:= prep2_sound hS hI0 news r hΓ0
 have hE:Ext w.heap.size ([]: List (AObj C.S.El)).length env2 w env' w':=hE0.trans (hE1.mono (Nat.zero_le _))
 clear hE0 hE1 hI0 hΓ0
 generalize (prep2 news r r0 H0).2=H' at hΓ hI' hr hnews ⊢
 generalize (prep2 news r r0 H0).1=r' at hΓ hI' hr hnews ⊢
 have hbel:Below w.heap.size w w':=hE.below
 subst hr;subst hnews
 have hX:=exp2_sound (env:=env) (n:=H.length) hS hI' hΓ
 obtain ⟨hnd,hrow⟩:= exp2_ids (C:=C) (H:=H') r'
 generalize (exp2 H' r').1=F at hX hnd hrow ⊢
 have hNi : ∀i v,env.val i=some v→i < H.length:=hI.fresh
 have hEx:Ext B H.length env w (envX env env' H.length F) w':=⟨hbel.mono hI.base,fun i v hi hv=>by simp only [envX];rw [if_pos hi];exact hv,fun b o hp=>hE.prot b o hp,fun b o hp=>hE.keep b o hp,fun b o hp=>(hE.newp b o hp).imp id fun h=>Nat.le_trans hI.base h⟩
 have ho : ∀i,obj (H ++ F.map (obj H')) i=if i < H.length then obj H i else match F[i - H.length]? with | some k=>obj H' k | none => .gone:=by
  intro i
  simp only [obj_nth,List.getElem?_append]
  by_cases h1:i < H.length
  ·rw [if_pos h1,if_pos h1]
  ·rw [if_neg h1,if_neg h1,List.getElem?_map]
   cases F[i - H.length]? <;> simp [obj_nth]
 have hval : ∀i,¬i < H.length→∀v,(envX env env' H.length F).val i=some v→∃k,F[i - H.length]? = some k∧env'.val k=some v:=by
  intro i hi v hv
  simp only [envX] at hv
  rw [if_neg hi] at hv
  simpa [Option.bind_eq_some_iff] using hv
 have hlow : ∀i,i < H.length→(envX env env' H.length F).val i=env.val i:=fun i hi=>by simp only [envX];rw [if_pos hi]
 refine ⟨v,envX env env' H.length F,he,hX,⟨fun i=>?_,fun i u b hl e1 e2 o hpp=>?_,fun i j u u' b hl hl' e1 e2 e3 e4=>?_,fun b o hp=>hI'.inheap b o hp,fun i u hu=>?_,fun g=>(hI.glob g).ext hEx hNi,Nat.le_trans hI.base hbel.size⟩,hEx,hbel⟩
 ·rw [ho]
  by_cases hi:i < H.length
  ·rw [if_pos hi,hlow i hi]
   exact (hI.objs i).ext hEx hNi (fun u b h1 h2 h3=>hbel.block b (live_block hI h1 h2 h3))
  ·rw [if_neg hi]
   cases hF:F[i - H.length]? with
   | none=>trivial
   | some k =>
    obtain ⟨t,xs,hk⟩:= hrow k (List.mem_of_getElem? hF)
    simp only [hk]
    have hok:=hI'.objs k
    rw [hk] at hok
    obtain ⟨u,ws,q1,q2,q3⟩:= hok
    refine ⟨u,ws,by simp only [envX];rw [if_neg hi,hF];exact q1,⟨q2.1,q2.2.imp id ?_⟩,fun a b ha hb=>?_⟩
    ·rintro ⟨g,cap,cur,fz,bo,r1,r2,r3⟩
     exact ⟨g,cap,cur,fz,bo,r1,Nat.le_trans hI.base r2,r3⟩
    ·refine closed0 hS (q3 a b ha hb) ?_
     have hgm : ∀(cs:List (AV C.S.El)) j,j < cs.length→cs.getD j .any∈cs:=fun cs j hj=>by rw [List.getD,List.getElem?_eq_getElem hj];exact List.getElem_mem _
     exact (hS.flat t _ _ (hgm _ _ (by rw [hS.len];exact hb))).1
 ·rw [ho] at hl
  by_cases hi:i < H.length
  ·rw [if_pos hi] at hl
   rw [hlow i hi] at e1
   rcases hE.newp b o hpp with h1 | h1
   ·exact hI.free i u b hl e1 e2 o h1
   ·have:=live_block hI e1 e2 hl;omega
  ·rw [if_neg hi] at hl
   obtain ⟨k,hk,hv⟩:= hval i hi u e1
   rw [hk] at hl
   exact hI'.free k u b hl hv e2 o hpp
 ·rw [ho] at hl hl'
  by_cases hi:i < H.length <;> by_cases hj:j < H.length
  ·rw [if_pos hi] at hl
   rw [if_pos hj] at hl'
   rw [hlow i hi] at e1
   rw [hlow j hj] at e2
   exact hI.apart i j u u' b hl hl' e1 e2 e3 e4
  ·rw [if_pos hi] at hl
   rw [if_neg hj] at hl'
   rw [hlow i hi] at e1
   obtain ⟨k,hk,hv⟩:= hval j hj u' e2
   rw [hk] at hl'
   have h1:=live_block hI e1 e3 hl
   obtain ⟨t,xs,hkk⟩:= hrow k (List.mem_of_getElem? hk)
   have hok:=hI'.objs k
   rw [hkk] at hok
   obtain ⟨u2,ws,q1,q2,q3⟩:= hok
   rw [hv] at q1;cases q1
   rcases q2.2 with ⟨q4,_⟩| ⟨g,cap,cur,fz,bo,q4,q5,_⟩
   ·rw [q4] at e4;cases e4
   ·rw [q4] at e4;cases e4;have h1':g < w.heap.size:=h1;omega
  ·rw [if_neg hi] at hl
   rw [if_pos hj] at hl'
   rw [hlow j hj] at e2
   obtain ⟨k,hk,hv⟩:= hval i hi u e1
   have h1:=live_block hI e2 e4 hl'
   obtain ⟨t,xs,hkk⟩:= hrow k (List.mem_of_getElem? hk)
   have hok:=hI'.objs k
   rw [hkk] at hok
   obtain ⟨u2,ws,q1,q2,q3⟩:= hok
   rw [hv] at q1;cases q1
   rcases q2.2 with ⟨q4,_⟩| ⟨g,cap,cur,fz,bo,q4,q5,_⟩
   ·rw [q4] at e3;cases e3
   ·rw [q4] at e3;cases e3;have h1':g < w.heap.size:=h1;omega
  ·rw [if_neg hi] at hl
   rw [if_neg hj] at hl'
   obtain ⟨k,hk,hv⟩:= hval i hi u e1
   obtain ⟨k',hk',hv'⟩:= hval j hj u' e2
   rw [hk] at hl
   rw [hk'] at hl'
   have:=hI'.apart k k' u u' b hl hl' hv hv' e3 e4
   subst this
   have h1:=(List.getElem?_eq_some_iff.1 hk)
   have h2:=(List.getElem?_eq_some_iff.1 hk')
   have:=(List.getElem_inj (h₀:=h1.1) (h₁:=h2.1) hnd).1 (h1.2.trans h2.2.symm)
   omega
 ·by_cases hi:i < H.length
  ·simp;omega
  ·obtain ⟨k,hk,_⟩:= hval i hi u hu
   have:=(List.getElem?_eq_some_iff.1 hk).1
   simp;omega
theorem law_of_fun (hC:CxOk C) {f:FuncId} (fuel:Nat) {args:List (AV C.S.El)} (h:evFun C fuel f args [] fun r _=>r = .v (.bool true)) {vals:List Value} {w:World} (hg:G2 C.S ⟨fun _=>none,fun b _=>b < w.heap.size⟩ w args vals)
  (hgl : ∀g,Γ C.S ⟨fun _=>none,fun b _=>b < w.heap.size⟩ w (C.S.glob g) (.pointer (some ⟨g,0,none⟩))): Calls C.P f vals.toArray w fun e w'=>e = .returned (.bool true)∧Below w.heap.size w w':=by
 refine ((evFun_sound hC fuel).1 f args [] _ h w.heap.size ⟨fun _=>none,fun b _=>b < w.heap.size⟩ w vals hg ⟨fun i=>by simp [obj_nth,ObjOk],fun i v b hl=>by simp [obj_nth,live] at hl,fun i j u v b hl=>by simp [obj_nth,live] at hl,fun b o h=>h,fun i v h=>by simp at h,hgl,Nat.le_refl _⟩).mono ?_
 rintro e w' ⟨v,env',r',H',rfl,rfl,hΓ,_,hE,_⟩
 exact ⟨by rw [hΓ.unv],hE.below⟩
end
def fstC:Code→Code
 | .seq a _=>a
 | .cond _ a _=>a
 | .block _ b=>b
 | .loop b=>b
 | c=>c
def sndC:Code→Code
 | .seq _ b=>b
 | .cond _ _ b=>b
 | c=>c
def seqK (C:Cx) (inl:Inl C.S.El) (b:Code) (K:AExit→St C.S.El→Prop): AExit→St C.S.El→Prop:=fun e st'=>match e with
 | .normal=>evCode C inl b st' K
 | e=>K e st'
def blockK (C:Cx) (id:Nat) (K:AExit→St C.S.El→Prop): AExit→St C.S.El→Prop:=fun e st'=>match e with
 | .exit i=>bif Nat.beq i id then K .normal st' else K (.exit i) st'
 | e=>K e st'
theorem ev_loop {C:Cx} {inl:Inl C.S.El} {b:Code} (hu:unr C b=0) {st:St C.S.El} {K:AExit→St C.S.El→Prop} (I:Nat→St C.S.El→Prop) (n:Nat) (s0:St C.S.El) (h1:I n s0) (h2:stGe st s0)
  (h3 : ∀n s,I n s→evCode C inl b s fun e s'=>match e with
    | .normal => ∃m s'',m < n∧I m s''∧stGe s' s''
    | e=>K e s'): evCode C inl (.loop b) st K:=by
 unfold evCode
 rw [hu]
 exact ⟨I,n,s0,h1,h2,h3⟩
end Go.Aw
end
section
/-
  The reckoner's own law that what is owed at the end may be less; loops by what is kept at their heads.
-/
set_option linter.unusedVariables false
namespace Go.Aw
open Go
def InlMono {El:TypeId→Type} (inl:Inl El): Prop:=∀f args H (K K':AV El→List (AObj El)→Prop),(∀r H,K r H→K' r H)→inl f args H K→inl f args H K'
theorem also_mono {q q':Prop} (h:q→q'): ∀{ps:List Prop},also ps q→also ps q'
 | [],k=>h k
 | _::_,k=>⟨k.1,also_mono h k.2⟩
section
variable {C:Cx} {inl:Inl C.S.El}
theorem lkMap_mono {El:TypeId→Type} {n:Int} {P Q:Option (AV El)→Prop} (h : ∀r,P r→Q r): ∀(ks:List Int) (vs:List (AV El)),lkMap n ks vs P→lkMap n ks vs Q
 | [],vs,k=>by cases vs <;> exact h _ k
 | _::_,[],k=>h _ k
 | a::ks,v::vs,k=>by
  unfold lkMap at k ⊢
  revert k
  cases (n==a)
  ·exact lkMap_mono h ks vs
  ·exact h _
theorem evOne_mono (hi:InlMono inl) {o:Oper} {st:St C.S.El} {K K':St C.S.El→Prop} (h : ∀s,K s→K' s) (k:evOne C inl o st K): evOne C inl o st K':=by
 unfold evOne at k ⊢
 split at k
 ·split at k
  ·exact also_mono (fun k=>by
    revert k
    cases asmP C o (rhoOf C st o) st.objs with
    | none=>exact h _
    | some p=>exact fun k hp=>h _ (k hp)) k
  ·exact k.elim
 ·split at k
  ·split at k
   ·exact also_mono (h _) k
   ·exact k.elim
  split at k
  ·split at k
   ·exact also_mono (h _) k
   ·exact k.elim
  ·split at k
   ·split at k
    ·refine also_mono (fun k=>hi _ _ _ _ _ (fun r H k=>?_) k) k
     revert k
     split
     ·exact h _
     ·exact id
    ·exact k.elim
   ·split at k
    ·refine also_mono (lkMap_mono (fun r k=>?_) _ _) k
     revert k
     split
     ·split
      ·exact h _
      ·exact id
     ·exact id
    ·exact k.elim
   ·split at k
    ·refine also_mono (fun k z hz=>?_) k
     have k:=k z hz
     revert k
     split
     ·exact h _
     ·exact id
    ·exact k.elim
   ·exact k.elim
theorem evOps_mono (hi:InlMono inl) {all:List Oper} {K K':St C.S.El→Prop} (h : ∀s,K s→K' s): ∀(l:List Oper) (st:St C.S.El),evOps C inl all l st K→evOps C inl all l st K'
 | [],st,k=>h _ k
 | o::rest,st,k=>by
  unfold evOps at k ⊢
  split at k
  ·exact evOne_mono hi (fun s k=>evOps_mono hi h rest s k) k
  ·split at k
   ·exact k.elim
   ·split at k
    ·split at k
     ·exact also_mono (evOps_mono hi h rest _) k
     ·exact k.elim
    ·rw [cond_both] at k ⊢
     refine ⟨fun hg=>evOne_mono hi (fun s k=>evOps_mono hi h rest s k) (k.1 hg),fun hg=>?_⟩
     have k:=k.2 hg
     revert k
     split
     ·exact evOps_mono hi h rest _
     ·exact id
theorem evDs_mono {Tg:List Nat} {all:List Oper} {Lt:List Nat} {K K':List Oper→St C.S.El→Prop} (h : ∀l s,K l s→K' l s): ∀(i m:Nat) (l:List Oper) (st:St C.S.El) (N:List (AObj C.S.El)) (D:List Nat),evDs C Tg all Lt i m l st N D K→evDs C Tg all Lt i m l st N D K'
 | _,0,l,st,N,D,k=>h _ _ k
 | _,_+1,[],st,N,D,k=>h _ _ k
 | i,m+1,o::rest,st,N,D,k=>by
  unfold evDs at k ⊢
  split at k
  ·split at k
   ·split at k
    ·exact also_mono (evDs_mono h (i+1) m rest _ _ _) k
    ·exact k.elim
   ·split at k
    ·split at k
     ·exact also_mono (evDs_mono h (i+1) m rest _ _ _) k
     ·exact k.elim
    ·split at k
     ·split at k
      ·exact also_mono (evDs_mono h (i+1) m rest _ _ _) k
      ·exact k.elim
     ·cases hn:noNew C (seen Tg all Lt i o (rhoOf C st o) st.objs).length o (rhoOf C st o) <;> rw [hn] at k
      ·exact k.elim
      ·rw [cond_true] at k ⊢
       split at k
       ·split at k
        ·exact also_mono (evDs_mono h (i+1) m rest _ _ _) k
        ·exact k.elim
       ·split at k
        ·split at k
         ·refine also_mono (lkMap_mono (fun r k=>?_) _ _) k
          revert k
          split
          ·split
           ·exact evDs_mono h (i+1) m rest _ _ _
           ·exact id
          ·exact id
         ·exact k.elim
        ·exact k.elim
  ·split at k
   ·exact k.elim
   ·cases hn:noNew C (seen Tg all Lt i o (rhoOf C st o) st.objs).length o (rhoOf C st o) <;> rw [hn] at k
    ·exact k.elim
    ·rw [cond_true] at k ⊢
     split at k
     ·split at k
      ·exact also_mono (evDs_mono h (i+1) m rest _ _ _) k
      ·exact k.elim
     ·exact k.elim
theorem rounds_mono {f:St C.S.El→(AExit→St C.S.El→Prop)→Prop} (hf : ∀s K K',(∀e s,K e s→K' e s)→f s K→f s K') {K K':AExit→St C.S.El→Prop} (h : ∀e s,K e s→K' e s): ∀(n:Nat) (s:St C.S.El),rounds f n s K→rounds f n s K'
 | 0,_,k=>k.elim
 | n+1,s,k=>hf s _ _ (fun e s' k=>by
  cases e with
  | normal=>exact rounds_mono hf h n s' k
  | _=>exact h _ _ k) k
theorem evCode_mono (hi:InlMono inl): ∀(c:Code) (st:St C.S.El) {K K':AExit→St C.S.El→Prop},(∀e s,K e s→K' e s)→evCode C inl c st K→evCode C inl c st K'
 | .skip,st,K,K',h,k=>h _ _ k
 | .region _ ops draw,st,K,K',h,k=>by
  unfold evCode at k ⊢
  cases draw with
  | false=>exact evOps_mono hi (fun s=>h _ s) _ _ k
  | true =>
   dsimp only at k ⊢
   cases hb:(edgesOk ops.toList && (apartOk ops.toList (bitsBefore ops.toList) && tailOk ops.toList (bitsBefore ops.toList) (pickM C ops.toList))) with
   | false=>rw [hb] at k;exact k.elim
   | true =>
    rw [hb] at k
    exact evDs_mono (fun l s k=>evOps_mono hi (fun s=>h _ s) _ _ k) _ _ _ _ _ _ k
 | .seq a b,st,K,K',h,k=>by
  unfold evCode at k ⊢
  refine evCode_mono hi a st (fun e s k=>?_) k
  cases e with
  | normal=>exact evCode_mono hi b s h k
  | _=>exact h _ _ k
 | .cond c x y,st,K,K',h,k=>by
  unfold evCode at k ⊢
  split at k
  ·rw [cond_both] at k ⊢
   exact ⟨fun hb=>evCode_mono hi x _ h (k.1 hb),fun hb=>evCode_mono hi y _ h (k.2 hb)⟩
  ·exact k.elim
 | .block id b,st,K,K',h,k=>by
  unfold evCode at k ⊢
  refine evCode_mono hi b st (fun e s k=>?_) k
  cases e with
  | exit i =>
   dsimp only at k ⊢
   cases hb:Nat.beq i id with
   | true=>rw [hb] at k;exact h _ _ k
   | false=>rw [hb] at k;exact h _ _ k
  | _=>exact h _ _ k
 | .loop b,st,K,K',h,k=>by
  unfold evCode at k ⊢
  cases hun:unr C b with
  | succ n =>
   rw [hun] at k
   exact rounds_mono (fun s K K' h k=>evCode_mono hi b s h k) h _ _ k
  | zero =>
  rw [hun] at k
  simp only at k ⊢
  obtain ⟨I,n,s0,h1,h2,h3⟩:= k
  refine ⟨I,n,s0,h1,h2,fun n s hI=>evCode_mono hi b s (fun e s k=>?_) (h3 n s hI)⟩
  cases e with
  | normal=>exact k
  | _=>exact h _ _ k
 | .exit id,st,K,K',h,k=>h _ _ k
 | .ret,st,K,K',h,k=>h _ _ k
 | .rangeFunc ..,st,K,K',h,k=>by unfold evCode at k;exact k.elim
 | .scope b,st,K,K',h,k=>by
  unfold evCode at k ⊢
  exact evCode_mono hi b st h k
 | .label _,st,K,K',h,k=>h _ _ k
 | .goto ..,st,K,K',h,k=>by unfold evCode at k;exact k.elim
 | .refuse ..,st,K,K',h,k=>by unfold evCode at k;exact k.elim
end
def roundK {C:Cx} (keep:List Nat) (ups:List Up) (J:St C.S.El→Prop) (K:AExit→St C.S.El→Prop): AExit→St C.S.El→Prop:=fun e s'=>match e with
 | .normal=>cond (okH keep ups s') (J (headS keep ups s')) False
 | e=>K e s'
theorem ev_loop2 {C:Cx} {inl:Inl C.S.El} {b:Code} (hu:unr C b=0) (hi:InlMono inl) {st:St C.S.El} {K:AExit→St C.S.El→Prop} (keep:List Nat) (ups:List Up) (I:Nat→St C.S.El→Prop) (n:Nat) (h1:okH keep ups st=true∧I n (headS keep ups st))
  (h3 : ∀n s,I n s→evCode C inl b s (roundK keep ups (fun s' => ∃m,m < n∧I m s') K)): evCode C inl (.loop b) st K:=by
 refine ev_loop hu I n _ h1.2 (headS_ge keep ups st h1.1) fun n s h=>evCode_mono hi b s (fun e s' k=>?_) (h3 n s h)
 cases e with
 | normal =>
  simp only [roundK] at k
  cases hk:okH keep ups s' with
  | false=>rw [hk] at k;exact k.elim
  | true =>
   rw [hk] at k
   obtain ⟨m,h1,h2⟩:= k
   exact ⟨m,_,h1,h2,headS_ge keep ups s' hk⟩
 | _=>exact k
theorem retK_mono {C:Cx} {lo:Nat} {r:AV C.S.El} {H:List (AObj C.S.El)} {K K':AV C.S.El→List (AObj C.S.El)→Prop} (h : ∀r H,K r H→K' r H) (k:retK C lo r H K): retK C lo r H K':=by
 unfold retK at k ⊢
 split at k
 ·exact h _ _ k
 ·exact h _ _ k
theorem evFun_mono (C:Cx): ∀fuel,InlMono (evFun C fuel)
 | 0,f,args,H,K,K',h,k=>by unfold evFun at k;exact k.elim
 | n+1,f,args,H,K,K',h,k=>by
  unfold evFun at k ⊢
  split at k
  ·exact also_mono (h _ _) k
  split at k
  ·exact k.elim
  ·split at k
   ·exact k.elim
   ·refine evCode_mono (evFun_mono C n) _ _ (fun e s k=>?_) k
    cases e with
    | exit i=>exact k
    | normal=>revert k;dsimp only;split;exact retK_mono h;exact id
    | ret=>revert k;dsimp only;split;exact retK_mono h;exact id
def o2 (g:Bool): Prop:=g=true→g=true
def o3 (g:Bool): Prop:=g=true→g=true→g=true
def on (g:Bool): Prop:=g=false→(!g)= true
theorem o2_ok (g:Bool): o2 g:=id
theorem o3_ok (g:Bool): o3 g:=fun _ h=>h
theorem on_ok (g:Bool): on g:=fun h=>by rw [h];rfl
theorem also_of {q:Prop}: ∀{ps:List Prop},(∀p∈ps,p)→q→also ps q
 | [],_,h=>h
 | p::ps,h,k=>⟨⟨h p (List.mem_cons_self ..)⟩,also_of (fun x hx=>h x (List.mem_cons_of_mem _ hx)) k⟩
theorem also_cons {p q:Prop} {ps:List Prop} (h:p) (k:also ps q): also (p::ps) q:=⟨⟨h⟩,k⟩
end Go.Aw
end
section
/-
  Typed readings of abstract values, piece by piece; contracts over typed arguments (own work).
-/
set_option linter.unusedVariables false
namespace Go.Aw
open Go
def Imp {S:Sig} (cs ds:List (AV S.El)): Prop:=∀env w vs,G2 S env w cs vs→G2 S env w ds vs
section
variable {El:TypeId→Type} {R:Type}
def popI (k:IntKind) (cs:List (AV El)) (f:Int→List (AV El)→Option R): Option R :=
 match cs with
 | .v (.int k' n):: l=>bif k'==k then f n l else none
 | _=>none
def popB (cs:List (AV El)) (f:Bool→List (AV El)→Option R): Option R :=
 match cs with
 | .v (.bool n):: l=>f n l
 | _=>none
def popT (cs:List (AV El)) (f:ByteArray→List (AV El)→Option R): Option R :=
 match cs with
 | .v (.string n):: l=>f n l
 | _=>none
def popS (t:TypeId) (cs:List (AV El)) (f:List (El t)→List (AV El)→Option R): Option R :=
 match cs with
 | .sl u xs _::l=>if h:u=t then f (h ▸ xs) l else none
 | .v (.slice none 0 0):: l=>f [] l
 | _=>none
def popA {X:Type} (dec:List (AV El)→Option X) (cs:List (AV El)) (f:X→List (AV El)→Option R): Option R :=
 match cs with
 | .agg c::l=>match dec c with
  | some x=>f x l
  | none=>none
 | _=>none
def popE (cs:List (AV El)) (x:R): Option R :=
 match cs with
 | []=> some x
 | _=>none
end
section
variable {S:Sig} {R:Type}
theorem popI_some {k:IntKind} {cs:List (AV S.El)} {f:Int→List (AV S.El)→Option R} {r:R} (h:popI k cs f=some r): ∃n l,cs = .v (.int k n):: l∧f n l=some r:=by
 unfold popI at h
 split at h
 ·obtain ⟨h1,h2⟩:= cond_some h
  have:=eq_of_beq h1
  subst this
  exact ⟨_,_,rfl,h2⟩
 ·cases h
theorem popB_some {cs:List (AV S.El)} {f:Bool→List (AV S.El)→Option R} {r:R} (h:popB cs f=some r): ∃n l,cs = .v (.bool n):: l∧f n l=some r:=by
 unfold popB at h
 split at h
 ·exact ⟨_,_,rfl,h⟩
 ·cases h
theorem popT_some {cs:List (AV S.El)} {f:ByteArray→List (AV S.El)→Option R} {r:R} (h:popT cs f=some r): ∃n l,cs = .v (.string n):: l∧f n l=some r:=by
 unfold popT at h
 split at h
 ·exact ⟨_,_,rfl,h⟩
 ·cases h
theorem Imp.refl (cs:List (AV S.El)): Imp cs cs:=fun _ _ _ h=>h
theorem Imp.cons {c:AV S.El} {cs ds:List (AV S.El)} (h:Imp cs ds): Imp (c::cs) (c::ds):= fun env w vs hg=>by
 obtain ⟨u,us,rfl,h1,h2⟩:= hg.uncons
 exact (h env w us h2).cons h1
theorem Imp.cons2 {c d:AV S.El} {cs ds:List (AV S.El)} (hc : ∀env w v,Γ S env w c v→Γ S env w d v) (h:Imp cs ds): Imp (c::cs) (d::ds):= fun env w vs hg=>by
 obtain ⟨u,us,rfl,h1,h2⟩:= hg.uncons
 exact (h env w us h2).cons (hc env w u h1)
theorem popS_some {t:TypeId} {cs:List (AV S.El)} {f:List (S.El t)→List (AV S.El)→Option R} {r:R} (h:popS t cs f=some r): ∃xs l,f xs l=some r∧∀ds,Imp l ds→Imp cs (.sl t xs false::ds):= by
 unfold popS at h
 split at h
 ·rename_i u xs g l
  split at h
  ·rename_i hu
   subst hu
   refine ⟨xs,l,h,fun ds hd => .cons2 (fun env w v hv=>?_) hd⟩
   cases hv with
   | sl _ _ _ b off cap val hf hc hw h=>exact .sl u xs false b off cap val (by simp) hc hw h
   | slnil=>exact .slnil u false
   | slemp _ _ a cap hf=>exact .slemp u false a cap (by simp)
  ·cases h
 ·rename_i l
  exact ⟨[],l,h,fun ds hd => .cons2 (fun env w v hv=>by cases hv.unv;exact .slnil t false) hd⟩
 ·cases h
theorem popA_some {X:Type} {dec:List (AV S.El)→Option X} {cells:X→List (AV S.El)} (hdec : ∀cs x,dec cs=some x→Imp cs (cells x)) {cs:List (AV S.El)} {f:X→List (AV S.El)→Option R} {r:R} (h:popA dec cs f=some r):
  ∃x l,f x l=some r∧∀ds,Imp l ds→Imp cs (.agg (cells x):: ds):= by
 unfold popA at h
 split at h
 ·rename_i c l
  split at h
  ·rename_i x hx
   refine ⟨x,l,h,fun ds hd => .cons2 (fun env w v hv=>?_) hd⟩
   obtain ⟨vs,rfl,hvs⟩:= hv.unagg
   exact G2.agg (hdec _ _ hx env w _ hvs)
  ·cases h
 ·cases h
theorem popE_some {cs:List (AV S.El)} {x r:R} (h:popE cs x=some r): cs=[]∧x=r:=by
 unfold popE at h
 split at h
 ·cases h;exact ⟨rfl,rfl⟩
 ·cases h
end
def ctOf {El:TypeId→Type} {X:Type} (dec:List (AV El)→Option X) (ps:X→List Prop) (res:X→AV El) (news:X→List (AObj El)): Ct El:=fun args=>(dec args).map fun x=>(ps x,res x,news x)
theorem ct_mk {C:Cx} (hC:CxOk C) {f:FuncId} {X:Type} {dec:List (AV C.S.El)→Option X} {enc:X→List (AV C.S.El)} (hdec : ∀cs x,dec cs=some x→Imp cs (enc x)) (hcl : ∀x,(enc x).all (lt1 0)= true) {ps:X→List Prop} {res:X→AV C.S.El} {news:X→List (AObj C.S.El)} (fuel:Nat)
  (h : ∀x,(∀p∈ps x,p)→evFun C fuel f (enc x) [] fun r' H'=>Gives r' H' (res x) (news x)): CtOk C f (ctOf dec ps res news):= by
 intro args p r ns hct hp _ B env w H vals hg hI
 simp only [ctOf,Option.map_eq_some_iff] at hct
 obtain ⟨x,hx,he⟩:= hct
 cases he
 exact ct_of_fun (ct:=fun a=>open Classical in if a=enc x then some (ps x,res x,news x) else none) hC fuel (fun a q r ns hct hq=>by
  split at hct
  ·rename_i ha
   cases hct
   subst ha
   exact h x hq
  ·cases hct) (enc x) (ps x) (res x) (news x) (by simp) hp (hcl x) B env w H vals (hdec _ _ hx env w vals hg) hI
theorem by_cond2 {R:Type} {b:Bool} {x y v:R} {X Y:Prop} (h1:b=true→v=x→X) (h2:b=false→v=y→Y): v=cond b x y→cond b X Y:=by
 intro hv
 cases b
 ·exact h2 rfl hv
 ·exact h1 rfl hv
theorem by_cond {R:Type} {b:Bool} {x y v:R} {X Y:Prop} (h1:b=true→v=x→X) (h2:b=false→v=y→Y) (hv:v=cond b x y): cond b X Y:=by
 cases b
 ·exact h2 rfl hv
 ·exact h1 rfl hv
def subC:List Bool→Code→Code
 | [],c=>c
 | false::p,c=>subC p (fstC c)
 | true::p,c=>subC p (sndC c)
def ctxK (C:Cx) (inl:Inl C.S.El): List Bool→Code→(AExit→St C.S.El→Prop)→AExit→St C.S.El→Prop
 | [],_,K=>K
 | false::p, .seq a b,K=>ctxK C inl p a (seqK C inl b K)
 | true::p, .seq _ b,K=>ctxK C inl p b K
 | _::p, .block id b,K=>ctxK C inl p b (blockK C id K)
 | false::p, .cond _ a _,K=>ctxK C inl p a K
 | true::p, .cond _ _ b,K=>ctxK C inl p b K
 | _::_,_,K=>K
def endK (C:Cx) (fn:Func) (K:AV C.S.El→List (AObj C.S.El)→Prop): AExit→St C.S.El→Prop:=fun e st=>match e with
 | .exit _=>False
 | _=>match resultsA C fn st with
  | some r=>retK C st.lo r st.objs K
  | none=>False
def bodyC (P:Program) (f:FuncId): Code:=match P.funcs[f]? with
 | some fn=>match fn.body with
  | some c=>c
  | none => .skip
 | none => .skip
def funcC (P:Program) (f:FuncId): Func:=(P.funcs[f]?).getD default
def loopB (P:Program) (f:FuncId) (p:List Bool): Code:=fstC (subC p (bodyC P f))
def loopK (C:Cx) (fuel:Nat) (f:FuncId) (p:List Bool) (Q:AV C.S.El→List (AObj C.S.El)→Prop): AExit→St C.S.El→Prop:=ctxK C (evFun C fuel) p (bodyC C.P f) (endK C (funcC C.P f) Q)
theorem loop_ev {C:Cx} {inl:Inl C.S.El} {b:Code} (hu:unr C b=0) (hi:InlMono inl) {X:Type} {st:St C.S.El} {K:AExit→St C.S.El→Prop} (keep:List Nat) (ups:List Up) (enc:X→St C.S.El) (μ:X→Nat) (Q:X→Prop) (x0:X) (h0:okH keep ups st=true∧headS keep ups st=enc x0) (hQ:Q x0)
  (h : ∀x,Q x→evCode C inl b (enc x) (roundK keep ups (fun s' => ∃x',s'=enc x'∧μ x' < μ x∧Q x') K)): evCode C inl (.loop b) st K:=by
 refine ev_loop2 hu hi keep ups (fun n s => ∃x,s=enc x∧μ x=n∧Q x) (μ x0) ⟨h0.1,x0,h0.2,rfl,hQ⟩ ?_
 rintro n _ ⟨x,rfl,rfl,hx⟩
 refine evCode_mono hi b _ (fun e s' k=>?_) (h x hx)
 cases e with
 | normal =>
  simp only [roundK] at k ⊢
  cases hk:okH keep ups s' with
  | false=>rw [hk] at k;exact k.elim
  | true =>
   rw [hk] at k
   obtain ⟨x',k2,k3,k4⟩:= k
   exact ⟨μ x',k3,x',k2,rfl,k4⟩
 | _=>exact k
theorem cond_and (a b:Bool): (cond a b false)= (a && b):= by cases a <;> rfl
theorem cond_or (a b:Bool): (cond a true b)= (a || b):= by cases a <;> rfl
theorem wi64 (n:Int) (h0 : -9223372036854775808≤n) (h1:n < 9223372036854775808): IntKind.wrap IntKind.i64 n=n:=by
 simp [IntKind.wrap,IntKind.bits,IntKind.signed];omega
theorem wi64s (n:Int): (-9223372036854775808≤n→n < 9223372036854775808→IntKind.wrap IntKind.i64 n=n)∧ -9223372036854775808≤IntKind.wrap IntKind.i64 n∧IntKind.wrap IntKind.i64 n≤9223372036854775807:=by
 refine ⟨wi64 n, ?_⟩
 simp [IntKind.wrap,IntKind.bits,IntKind.signed];omega
theorem wu64 (n:Int) (h0:0≤n) (h1:n < 18446744073709551616): IntKind.wrap IntKind.u64 n=n:=by
 simp [IntKind.wrap,IntKind.bits,IntKind.signed];omega
theorem wu64m (n:Int): IntKind.wrap IntKind.u64 n=n % 18446744073709551616:=by
 simp [IntKind.wrap,IntKind.bits,IntKind.signed]
theorem wu32m (n:Int): IntKind.wrap IntKind.u32 n=n % 4294967296:=by
 simp [IntKind.wrap,IntKind.bits,IntKind.signed]
theorem wu16m (n:Int): IntKind.wrap IntKind.u16 n=n % 65536:=by
 simp [IntKind.wrap,IntKind.bits,IntKind.signed]
theorem wu8m (n:Int): IntKind.wrap IntKind.u8 n=n % 256:=by
 simp [IntKind.wrap,IntKind.bits,IntKind.signed]
theorem wu64s (n:Int): (0≤n→n < 18446744073709551616→IntKind.wrap IntKind.u64 n=n)∧0≤IntKind.wrap IntKind.u64 n∧IntKind.wrap IntKind.u64 n≤18446744073709551615:=by
 rw [wu64m];omega
theorem wu32s (n:Int): (0≤n→n < 4294967296→IntKind.wrap IntKind.u32 n=n)∧0≤IntKind.wrap IntKind.u32 n∧IntKind.wrap IntKind.u32 n≤4294967295:=by
 rw [wu32m];omega
theorem wu16s (n:Int): (0≤n→n < 65536→IntKind.wrap IntKind.u16 n=n)∧0≤IntKind.wrap IntKind.u16 n∧IntKind.wrap IntKind.u16 n≤65535:=by
 rw [wu16m];omega
theorem wu8s (n:Int): (0≤n→n < 256→IntKind.wrap IntKind.u8 n=n)∧0≤IntKind.wrap IntKind.u8 n∧IntKind.wrap IntKind.u8 n≤255:=by
 rw [wu8m];omega
theorem minI_eq (a b:Int): minI a b=min a b:=by unfold minI;split <;> omega
theorem maxI_eq (a b:Int): maxI a b=max a b:=by unfold maxI;split <;> omega
def popC {El:TypeId→Type} {R X:Type} (f:FuncId) (dec:List (AV El)→Option X) (cs:List (AV El)) (g:X→List (AV El)→Option R): Option R :=
 match cs with
 | .clo f' c::l=>bif Nat.beq f' f then (match dec c with
  | some x=>g x l
  | none=>none) else none
 | _=>none
theorem popC_some {S:Sig} {R X:Type} {f:FuncId} {dec:List (AV S.El)→Option X} {cells:X→List (AV S.El)} (hdec : ∀cs x,dec cs=some x→Imp cs (cells x)) {cs:List (AV S.El)} {g:X→List (AV S.El)→Option R} {r:R} (h:popC f dec cs g=some r):
  ∃x l,g x l=some r∧∀ds,Imp l ds→Imp cs (.clo f (cells x):: ds):= by
 unfold popC at h
 split at h
 ·rename_i f' c l
  obtain ⟨h1,h2⟩:= cond_some h
  have:=Nat.eq_of_beq_eq_true h1
  subst this
  split at h2
  ·rename_i x hx
   refine ⟨x,l,h2,fun ds hd => .cons2 (fun env w v hv=>?_) hd⟩
   obtain ⟨vs,rfl,hvs⟩:= hv.unclo
   have:=hdec _ _ hx env w _ hvs
   exact .clo _ _ vs (by simpa using this.1) this.2
  ·cases h2
 ·cases h
def autoF (P:Program) (n:FuncId): Option Func :=
 match P.funcs[n]? with
 | some fn => bif fn.name == "runtime.NumGoroutine" then none else some fn
 | none=>none
def lookT {El:TypeId→Type}: List (FuncId×Ct El)→FuncId→Option (Ct El)
 | [],_=>none
 | (k,c):: l,n=>bif Nat.beq k n then some c else lookT l n
def mkCx (P:Program) (S:Sig) (tab:List (FuncId×Ct S.El)) (u:Nat): Cx:={P:=P,S:=S,T:=lookT tab,F:=autoF P,unroll:=u}
def plainB (P:Program) (f:FuncId): Bool :=
 match P.funcs[f]? with
 | some fn => !(fn.name == "runtime.NumGoroutine") && fn.body.isSome
 | none=>false
def TabOk (P:Program) (S:Sig): List (FuncId×Ct S.El)→Prop
 | []=> True
 | (k,c):: l=>CtOk (mkCx P S [] 0) k c∧plainB P k=true∧TabOk P S l
theorem plainB_ok {P:Program} {f:FuncId} (h:plainB P f=true): Plain P f:=by
 unfold plainB at h
 split at h
 ·rename_i fn hf
  simp only [Bool.and_eq_true,Bool.not_eq_true'] at h
  exact ⟨fn,hf,h.1,by cases hb:fn.body <;> simp_all⟩
 ·cases h
theorem tab_ct {P:Program} {S:Sig}: ∀{tab:List (FuncId×Ct S.El)} {f:FuncId} {ct:Ct S.El},TabOk P S tab→lookT tab f=some ct→CtOk (mkCx P S [] 0) f ct∧Plain P f
 | [],f,ct,_,h=>by cases h
 | (k,c):: l,f,ct,ht,h=>by
  unfold lookT at h
  cases hk:Nat.beq k f
  ·rw [hk,cond_false] at h;exact tab_ct ht.2.2 h
  ·rw [hk,cond_true] at h
   cases h
   have:=Nat.eq_of_beq_eq_true hk
   subst this
   exact ⟨ht.1,plainB_ok ht.2.1⟩
theorem mkCx_ok {P:Program} {S:Sig} (hS:SigOk S) (hm:P.follows .mixedOrders=true) {tab:List (FuncId×Ct S.El)} (ht:TabOk P S tab) (u:Nat): CxOk (mkCx P S tab u):=
 ⟨hS,fun f ct h=>(tab_ct ht h).1,fun f ct h=>(tab_ct ht h).2,(fun f fn h=>by
  simp only [mkCx,autoF] at h
  split at h
  ·rename_i g hg
   cases hn : (g.name == "runtime.NumGoroutine")
   ·rw [hn,cond_false] at h;cases h;exact ⟨hg,hn⟩
   ·rw [hn,cond_true] at h;cases h
  ·cases h),hm,fun _ _ _ _ _ _ h=>by cases h⟩
end Go.Aw
end
section
/-
  Bits of whole numbers without a sign, as plain numbers (own work).
-/
set_option linter.unusedSimpArgs false
set_option linter.unusedVariables false
namespace Go.Aw
open Go
theorem wrap_un {k:IntKind} (hk:k.signed=false) (n:Int): k.wrap n=n % 2 ^ k.bits:=by
 cases k <;> simp [IntKind.signed] at hk <;> simp [IntKind.wrap,IntKind.bits,IntKind.signed]
theorem ofInt_nat {n:Nat} (a:Nat) (ha:a < 2 ^ n): (BitVec.ofInt n (a:Int)).toNat=a:=by
 rw [BitVec.ofInt_natCast,BitVec.toNat_ofNat,Nat.mod_eq_of_lt ha]
theorem two_pow_cast (n:Nat): ((2 ^ n:Nat): Int)= (2:Int) ^ n:=by simp
theorem band_nat {k:IntKind} (hk:k.signed=false) (a b:Nat) (ha:a < 2 ^ k.bits) (hb:b < 2 ^ k.bits): bandK k (a:Int) (b:Int)= ((a &&& b:Nat): Int):= by
 unfold bandK
 rw [BitVec.toNat_and,ofInt_nat a ha,ofInt_nat b hb,wrap_un hk,←two_pow_cast]
 have:a &&& b < 2 ^ k.bits:=Nat.lt_of_le_of_lt Nat.and_le_left ha
 rw [←Int.natCast_emod,Nat.mod_eq_of_lt this]
theorem bor_nat {k:IntKind} (hk:k.signed=false) (a b:Nat) (ha:a < 2 ^ k.bits) (hb:b < 2 ^ k.bits): borK k (a:Int) (b:Int)= ((a ||| b:Nat): Int):= by
 unfold borK
 rw [BitVec.toNat_or,ofInt_nat a ha,ofInt_nat b hb,wrap_un hk,←two_pow_cast]
 rw [←Int.natCast_emod,Nat.mod_eq_of_lt (Nat.or_lt_two_pow ha hb)]
theorem bxor_nat {k:IntKind} (hk:k.signed=false) (a b:Nat) (ha:a < 2 ^ k.bits) (hb:b < 2 ^ k.bits): bxorK k (a:Int) (b:Int)= ((a ^^^ b:Nat): Int):= by
 unfold bxorK
 rw [BitVec.toNat_xor,ofInt_nat a ha,ofInt_nat b hb,wrap_un hk,←two_pow_cast]
 rw [←Int.natCast_emod,Nat.mod_eq_of_lt (Nat.xor_lt_two_pow ha hb)]
theorem band_nn {k:IntKind} (hk:k.signed=false) (a b:Int): 0≤bandK k a b:=by
 unfold bandK
 rw [wrap_un hk]
 exact Int.emod_nonneg _ (Int.ne_of_gt (Int.pow_pos (by decide)))
theorem band_le {k:IntKind} (hk:k.signed=false) (a:Int) {b:Int} (h0:0≤b): bandK k a b≤b:=by
 unfold bandK
 rw [wrap_un hk,←two_pow_cast,←Int.natCast_emod,BitVec.toNat_and]
 refine Int.le_trans (Int.ofNat_le.2 (Nat.mod_le _ _)) (Int.le_trans (Int.ofNat_le.2 Nat.and_le_right) ?_)
 obtain ⟨y,rfl⟩:= Int.eq_ofNat_of_zero_le h0
 rw [BitVec.ofInt_natCast,BitVec.toNat_ofNat]
 exact Int.ofNat_le.2 (Nat.mod_le _ _)
theorem tmod_b (a:Int) {m:Int} (hm:0 < m): -m < a.tmod m∧a.tmod m < m:=⟨Int.lt_tmod_of_pos a hm,Int.tmod_lt_of_pos a hm⟩
theorem shr_eq {k:IntKind} (a:Int) {n:Int} (h0:0≤n) (h1:n≤k.bits): shrK k a n=a / 2 ^ n.toNat:=by
 unfold shrK
 rw [show min n.toNat k.bits=n.toNat by omega,Int.fdiv_eq_ediv_of_nonneg _ (Int.le_of_lt (Int.pow_pos (by decide)))]
theorem shl_eq {k:IntKind} (hk:k.signed=false) (a:Int) {n:Int} (h0:0≤n) (h1:n≤k.bits): shlK k a n=(a*2 ^ n.toNat) % 2 ^ k.bits:=by
 unfold shlK
 rw [show min n.toNat k.bits=n.toNat by omega,wrap_un hk]
theorem band_low {k:IntKind} (hk:k.signed=false) {a:Int} (h0:0≤a) (h1:a < 2 ^ k.bits) {m:Int} {n:Nat} (hn:n≤k.bits) (hm:m=2 ^ n - 1): bandK k a m=a % 2 ^ n:=by
 obtain ⟨x,rfl⟩:= Int.eq_ofNat_of_zero_le h0
 have hp:0 < 2 ^ n:=Nat.two_pow_pos n
 have hx:x < 2 ^ k.bits:=by rw [←two_pow_cast] at h1;omega
 have hle:2 ^ n≤2 ^ k.bits:=Nat.pow_le_pow_right (by decide) hn
 have e:m=((2 ^ n - 1:Nat): Int):= by rw [hm,Int.natCast_sub hp,two_pow_cast];rfl
 rw [e,band_nat hk x (2 ^ n - 1) hx (by omega),Nat.and_two_pow_sub_one_eq_mod,←two_pow_cast,Int.natCast_emod]
theorem bclr_low {k:IntKind} (hk:k.signed=false) {a:Int} (h0:0≤a) (h1:a < 2 ^ k.bits) {m:Int} {n:Nat} (hn:n≤k.bits) (hm:m=2 ^ n - 1): bclrK k a m=a - a % 2 ^ n:=by
 obtain ⟨x,rfl⟩:= Int.eq_ofNat_of_zero_le h0
 have hp:0 < 2 ^ n:=Nat.two_pow_pos n
 have hx:x < 2 ^ k.bits:=by rw [←two_pow_cast] at h1;omega
 have hle:2 ^ n≤2 ^ k.bits:=Nat.pow_le_pow_right (by decide) hn
 have e:m=((2 ^ n - 1:Nat): Int):= by rw [hm,Int.natCast_sub hp,two_pow_cast];rfl
 have key:x &&& (2 ^ k.bits - 1 - (2 ^ n - 1))= x - x % 2 ^ n:=by
  apply Nat.eq_of_testBit_eq
  intro i
  have h3:2 ^ k.bits - 1 - (2 ^ n - 1)= 2 ^ k.bits - 2 ^ n:=by omega
  rw [h3,Nat.testBit_and]
  have h4:x - x % 2 ^ n=2 ^ n*(x / 2 ^ n):= by have:=Nat.div_add_mod x (2 ^ n);omega
  have h5:2 ^ k.bits - 2 ^ n=2 ^ n*(2 ^ (k.bits - n) - 1):= by
   rw [Nat.mul_sub,Nat.mul_one,←Nat.pow_add,show n+(k.bits - n)= k.bits by omega]
  rw [h4,h5,Nat.testBit_two_pow_mul,Nat.testBit_two_pow_mul]
  by_cases hi:n≤i
  ·simp only [hi,decide_true,Bool.true_and,Nat.testBit_two_pow_sub_one]
   rw [Nat.testBit_div_two_pow,show i - n+n=i by omega]
   by_cases hb:i - n < k.bits - n
   ·simp [hb]
   ·have:x.testBit i=false:=Nat.testBit_lt_two_pow (Nat.lt_of_lt_of_le hx (Nat.pow_le_pow_right (by decide) (by omega)))
    simp [this]
  ·simp [hi]
 unfold bclrK
 rw [BitVec.toNat_and,BitVec.toNat_not,ofInt_nat x hx,e,ofInt_nat (2 ^ n - 1) (by omega),key,wrap_un hk,←two_pow_cast,←Int.natCast_emod,←two_pow_cast,←Int.natCast_emod]
 rw [Nat.mod_eq_of_lt (Nat.lt_of_le_of_lt (Nat.sub_le _ _) hx),Int.natCast_sub (Nat.mod_le _ _)]
theorem bor_add {k:IntKind} (hk:k.signed=false) {a b:Int} {n:Nat} (h0:0≤a) (h1:a < 2 ^ n) (h2:0≤b) (h3:b*2 ^ n < 2 ^ k.bits) (hn:n≤k.bits): borK k a (b*2 ^ n)= a+b*2 ^ n:=by
 obtain ⟨x,rfl⟩:= Int.eq_ofNat_of_zero_le h0
 obtain ⟨y,rfl⟩:= Int.eq_ofNat_of_zero_le h2
 rw [←two_pow_cast] at h1
 rw [←two_pow_cast,←two_pow_cast,←Int.natCast_mul] at h3
 have hle:2 ^ n≤2 ^ k.bits:=Nat.pow_le_pow_right (by decide) hn
 have hx:x < 2 ^ n:=by omega
 rw [←two_pow_cast,←Int.natCast_mul,bor_nat hk x (y*2 ^ n) (by omega) (by omega),Nat.or_comm,Nat.mul_comm,←Nat.two_pow_add_eq_or_of_lt hx,Int.natCast_add,Int.add_comm]
def num8:Nat→Int→List Int
 | 0,_=>[]
 | n+1,v=>v % 256::num8 n (v / 256)
def val8:List Int→Int
 | []=> 0
 | b::l=>b+256*val8 l
theorem num8_len : ∀(n:Nat) (v:Int),(num8 n v).length=n
 | 0,_=>rfl
 | n+1,v=>by simp [num8,num8_len n]
def Bytes (b:List Int): Prop:=∀x∈b,0≤x∧x < 256
theorem num8_bytes : ∀(n:Nat) (v:Int),Bytes (num8 n v)
 | 0,_=>by simp [num8,Bytes]
 | n+1,v=>by
  intro x hx
  rcases List.mem_cons.1 hx with rfl | h
  ·omega
  ·exact num8_bytes n _ x h
theorem emod_step (v m:Int) (hm:0 < m): v % 256+256*(v / 256 % m)= v % (256*m):= by
 have h1:=Int.emod_nonneg (v / 256) (show m≠0 by omega)
 have h2:=Int.emod_lt_of_pos (v / 256) hm
 have e:v=(v % 256+256*(v / 256 % m))+ 256*m*(v / 256 / m):= by
  have h3:=Int.mul_ediv_add_emod (v / 256) m
  rw [Int.mul_assoc]
  omega
 have h4:(v % 256+256*(v / 256 % m)) % (256*m)= v % 256+256*(v / 256 % m):= Int.emod_eq_of_lt (by omega) (by omega)
 rw [e,Int.add_mul_emod_self_left,←e,h4]
theorem val8_num8 : ∀(n:Nat) (v:Int),val8 (num8 n v)= v % 256 ^ n
 | 0,v=>by simp [num8,val8]
 | n+1,v=>by
  rw [num8,val8,val8_num8 n,Int.pow_succ,Int.mul_comm (256 ^ n) 256,emod_step v (256 ^ n) (Int.pow_pos (by decide))]
theorem val8_bound : ∀(b:List Int),Bytes b→0≤val8 b∧val8 b < 256 ^ b.length
 | [],_=>by simp [val8]
 | x::l,h=>by
  have h1:=val8_bound l fun y hy=>h y (by simp [hy])
  have h2:=h x (by simp)
  rw [val8,List.length_cons,Int.pow_succ]
  omega
theorem num8_val8 : ∀(b:List Int),Bytes b→num8 b.length (val8 b)= b
 | [],_=>rfl
 | x::l,h=>by
  have h2:=h x (by simp)
  rw [val8,List.length_cons,num8,show (x+256*val8 l) % 256=x by omega,show (x+256*val8 l) / 256=val8 l by omega,num8_val8 l fun y hy=>h y (by simp [hy])]
theorem val8_append : ∀(a b:List Int),val8 (a ++ b)= val8 a+256 ^ a.length*val8 b
 | [],b=>by simp [val8]
 | x::l,b=>by
  rw [List.cons_append,val8,val8,val8_append l b,List.length_cons,Int.pow_succ,Int.mul_add,Int.mul_comm (256 ^ l.length) 256,Int.mul_assoc];omega
theorem Bytes.take {b:List Int} (h:Bytes b) (n:Nat): Bytes (b.take n):= fun x hx=>h x (List.mem_of_mem_take hx)
theorem Bytes.drop {b:List Int} (h:Bytes b) (n:Nat): Bytes (b.drop n):= fun x hx=>h x (List.mem_of_mem_drop hx)
theorem Bytes.getD {b:List Int} (h:Bytes b) (n:Nat): 0≤b.getD n 0∧b.getD n 0 < 256:=by
 by_cases hn:n < b.length
 ·exact h _ (by simp [List.getD,List.getElem?_eq_getElem hn])
 ·simp [List.getD,List.getElem?_eq_none (Nat.le_of_not_lt hn)]
end Go.Aw
end
section
/-
  Arguments, opened: what a value of a type of the program looks like, read off the statement's own condition on arguments.
-/
set_option linter.unusedVariables false
namespace Go.Aw
open Go
variable {P:Program} {w:World} {r:Reach} {b:Nat}
theorem cell_int {u:TypeId} {k:IntKind} {v:Value} (hu:P.underlying u=some (.int k)) (h:Cell.okWide P w r b u v): ∃n,v = .int k n∧k.has n:=by
 cases v <;> simp [Cell.okWide,Cell.ok,hu] at h
 obtain ⟨rfl,h⟩:= h
 exact ⟨_,rfl,h⟩
theorem cell_bool {u:TypeId} {v:Value} (hu:P.underlying u=some .bool) (h:Cell.okWide P w r b u v): ∃n,v = .bool n:=by
 cases v <;> simp [Cell.okWide,Cell.ok,hu] at h
 exact ⟨_,rfl⟩
theorem open_cells {t:TypeId} {v:Value} (ts:List TypeId) (hk:(match P.underlying t with | some (.struct _)| some (.array _ _)=> true | _=>false)= true) (hts:P.cellTypes P.depth t=some ts) (hn:P.cellsOf t=ts.length)
  (h:Value.okWide P w r b t v): ∃cs:List Value,v = .agg cs.toArray∧cs.length=ts.length∧∀(i:Nat) (c:Value),cs[i]? = some c→∃u,ts[i]? = some u∧Cell.okWide P w r b u c:=by
 unfold Value.okWide at h
 split at h
 ·obtain ⟨cs,rfl,hs,ts',ht',_,hc⟩:= h
  rw [hts] at ht';cases ht'
  refine ⟨cs.toList,by simp,by simp [hs,hn],fun i c hi=>?_⟩
  have hi':cs[i]? = some c:=by simpa using hi
  obtain ⟨u,hu,hcell⟩:= hc i c hi'
  have hlt:i < ts.length:=by
   have:=(Array.getElem?_eq_some_iff.1 hi').1
   omega
  rw [Nat.mod_eq_of_lt hlt] at hu
  exact ⟨u,hu,hcell⟩
 ·obtain ⟨cs,rfl,hs,ts',ht',_,hc⟩:= h
  rw [hts] at ht';cases ht'
  refine ⟨cs.toList,by simp,by simp [hs,hn],fun i c hi=>?_⟩
  have hi':cs[i]? = some c:=by simpa using hi
  obtain ⟨u,hu,hcell⟩:= hc i c hi'
  have hlt:i < ts.length:=by
   have:=(Array.getElem?_eq_some_iff.1 hi').1
   omega
  rw [Nat.mod_eq_of_lt hlt] at hu
  exact ⟨u,hu,hcell⟩
 ·rename_i h1 h2
  split at hk
  ·rename_i fs hu;exact absurd hu (h1 fs)
  ·rename_i n e hu;exact absurd hu (h2 n e)
  ·cases hk
theorem open_int2 {t u0 u1:TypeId} {v:Value} (hk:(match P.underlying t with | some (.struct _)| some (.array _ _)=> true | _=>false)= true) (hts:P.cellTypes P.depth t=some [u0,u1]) (hn:P.cellsOf t=2)
  (h0:P.underlying u0=some (.int .i64)) (h1:P.underlying u1=some (.int .i64)) (h:Value.okWide P w r b t v): ∃a c,v = .agg #[.int .i64 a, .int .i64 c]∧IntKind.i64.has a∧IntKind.i64.has c:=by
 obtain ⟨cs,rfl,hl,hc⟩:= open_cells [u0,u1] hk hts hn h
 match cs,hl with
 | [x,y],_ =>
  obtain ⟨u,hu,hx⟩:= hc 0 x rfl
  cases hu
  obtain ⟨u,hu,hy⟩:= hc 1 y rfl
  cases hu
  obtain ⟨a,rfl,ha⟩:= cell_int h0 hx
  obtain ⟨c,rfl,hc1⟩:= cell_int h1 hy
  exact ⟨a,c,rfl,ha,hc1⟩
section
open Go.RowKit
variable {C:Cx} {env:Env}
theorem law_of_ct {f:FuncId} {ct:Ct C.S.El} (h:CtOk C f ct) {args:List (AV C.S.El)} {ps:List Prop} {news:List (AObj C.S.El)} (hct:ct args=some (ps, .v (.bool true),news)) (hps : ∀p∈ps,p) (hlt:args.all (lt1 0)= true) {vals:List Value} {w:World}
  (hg:G2 C.S ⟨fun _=>none,fun b _=>b < w.heap.size⟩ w args vals)
  (hgl : ∀g,Γ C.S ⟨fun _=>none,fun b _=>b < w.heap.size⟩ w (C.S.glob g) (.pointer (some ⟨g,0,none⟩))): Calls C.P f vals.toArray w fun e w'=>e = .returned (.bool true)∧Below w.heap.size w w':=by
 refine (h args ps _ news hct hps hlt w.heap.size ⟨fun _=>none,fun b _=>b < w.heap.size⟩ w [] vals hg ⟨fun i=>by simp [obj_nth,ObjOk],fun i v b hl=>by simp [obj_nth,live] at hl,fun i j u v b hl=>by simp [obj_nth,live] at hl,fun b o h=>h,fun i v h=>by simp at h,hgl,Nat.le_refl _⟩).mono ?_
 rintro e w' ⟨v,env',rfl,hΓ,_,hE,hb⟩
 exact ⟨by rw [hΓ.unv],hb⟩
theorem agg_vals {S:Sig} (vs:List Value): Γ S env w (.agg (vs.map .v)) (.agg vs.toArray):= by
 refine .agg _ _ (by simp) fun j=>?_
 cases h:vs[j]? with
 | none=>simp [h];exact .any _
 | some v=>simp [h];exact .v v
end
theorem has_i64 {n:Int} (h:IntKind.i64.has n): -9223372036854775808≤n∧n≤9223372036854775807:=by
 simpa [IntKind.has,IntKind.min,IntKind.max,IntKind.bits,IntKind.signed] using h
section
open Go.ChangeShapes Go.WideShapes Go.ChangeAt Go.RowKit
variable {H:Type} {enc:TypeId×Value→H}
theorem trodAll_below (hl:laidOutB P=true) {W W':World} (hb:Below W.heap.size W W'): ∀(ts:List TypeId) (vs:List Value) (ds:List (DataW H)) (p:List MemPlace),(∀t∈ts,P.readableRec t=true∧t < P.types.size)→
  DataW.TrodAll enc P W 0 (fun _=>true) true ts vs ds p→(∀x∈p,x.block < W.heap.size)→DataW.TrodAll enc P W' 0 (fun b=>decide (b < W.heap.size)) true ts vs ds p
 | [],vs,ds,p,_,h,_=>by
  cases vs <;> cases ds <;> simp_all [DataW.TrodAll]
 | t::ts,vs,ds,p,hr,h,hp=>by
  obtain ⟨v,vs',d,ds',p0,q,rfl,rfl,rfl,h0,h1⟩:= trodAll_cons h
  exact trodAll_cons_mk (Below.trod hl (hr t (List.mem_cons_self ..)).1 (hr t (List.mem_cons_self ..)).2 h0 hb fun x hx=>hp x (by simp [hx]))
   (trodAll_below hl hb ts vs' ds' q (fun t ht=>hr t (List.mem_cons_of_mem _ ht)) h1 fun x hx=>hp x (by simp [hx]))
theorem post_true {f:Func} {s:ChangeSpec} {apart fresh handsOn:Bool} {W W':World} {args:Array Value} {ds:List (DataW H)} {before:List MemPlace} {tb:TypeId} (hl:laidOutB P=true)
  (hW:DataW.Whole enc P f.params.toList s.vars apart W args.toList ds [] before) (hv:s.vars=[]) (hA:DataW.TrodAll enc P W 0 (fun _=>true) true f.params.toList args.toList ds before)
  (hr : ∀t∈f.params.toList,P.readableRec t=true∧t < P.types.size) (hres:f.resultTypes = #[tb]) (htb:P.underlying tb=some .bool)
  (hfn:s.fn H (ds ++ [])= {results:=[.lit (.bool true)],args:=ds}) (hb:Below W.heap.size W W'):
  s.post enc P f apart fresh handsOn false W args (.bool true) W':=by
 have hlt : ∀x∈before,x.block < W.heap.size:=fun x hx=>hW.lt x hx
 refine ⟨ds,[],before,[],before,[],hW, ?_, ?_, ?_,hb.frame _,fun h=>by cases h⟩
 ·rw [hfn,hres]
  exact trodAll_cons_mk (shut_bool htb _) trodAll_mk0
 ·rw [hfn];exact trodAll_below hl hb _ _ _ _ hr hA hlt
 ·rw [hfn,hv];rfl
end
end Go.Aw
end
section
/-
  Arguments by their reading: what reads as a value of a type of the program is a typed value (own work).
-/
set_option linter.unusedVariables false
namespace Go.Aw
open Go Go.ChangeShapes Go.WideShapes Go.ChangeAt Go.RowKit
def env0 (w:World): Env:=⟨fun _=>none,fun b _=>b < w.heap.size⟩
def sane:Value→Prop
 | .slice (some a) _ _=>a.spot=none
 | _=>True
def Opn {H:Type} (enc:TypeId×Value→H) (P:Program) (S:Sig) (w:World) (f:Bool) (t:TypeId) (X:Type) (cell:X→List (AV S.El)) (has:X→Prop): Prop :=
 ∀(base:Nat) (spare:Nat→Bool) (held:Bool) (fuel:Nat) (cs:List Value) (x:DataW H×List MemPlace),DataW.trod enc P w base spare held fuel t cs=some x→(∀n∈x.1.weights P t,n≤reachBytes)→
  (f=false→∀v∈cs,sane v)→∃v:X,G2 S (env0 w) w (cell v) cs∧has v
section
variable {H:Type} {enc:TypeId×Value→H} {P:Program} {S:Sig} {w:World} {f:Bool}
theorem Opn.weak {t:TypeId} {X:Type} {cell:X→List (AV S.El)} {has:X→Prop} (h:Opn enc P S w true t X cell has) (f:Bool): Opn enc P S w f t X cell has :=
 fun base spare held fuel cs x hx hw _=>h base spare held fuel cs x hx hw (fun hf=>by cases hf)
theorem opn_int {t:TypeId} {k:IntKind} (hu:P.underlying t=some (.int k)): Opn enc P S w f t Int (fun n=>[.v (.int k n)]) k.has:=by
 intro base spare held fuel cs x hx hw _
 obtain ⟨n,rfl,rfl,hwf⟩:= DataW.trod_int hu hx
 refine ⟨n, .cons (.v _) .nil, ?_⟩
 simp only [Lit.wf,Bool.and_eq_true,decide_eq_true_eq] at hwf
 exact hwf
theorem opn_bool {t:TypeId} (hu:P.underlying t=some .bool): Opn enc P S w f t Bool (fun n=>[.v (.bool n)]) (fun _=>True):= by
 intro base spare held fuel cs x hx hw _
 obtain ⟨n,rfl,rfl⟩:= DataW.trod_bool hu hx
 exact ⟨n, .cons (.v _) .nil,trivial⟩
theorem opn_string {t:TypeId} (hu:P.underlying t=some .string): Opn enc P S w f t ByteArray (fun n=>[.v (.string n)]) (fun n=>n.size≤140737488351232):= by
 intro base spare held fuel cs x hx hw _
 obtain ⟨n,rfl,rfl,_⟩:= DataW.trod_string hu hx
 have h1:=hw _ (by simp only [DataW.weights];exact List.mem_singleton.2 rfl)
 exact ⟨n, .cons (.v _) .nil,by simpa [reachBytes] using h1⟩
theorem weightsAll_mem {e:TypeId}: ∀{l:List (DataW H)} {d:DataW H} {n:Nat},d∈l→n∈d.weights P e→n∈DataW.weightsAll P e l
 | a::l,d,n,hd,hn=>by
  simp only [DataW.weightsAll,List.mem_append]
  rcases List.mem_cons.1 hd with rfl | h
  ·exact .inl hn
  ·exact .inr (weightsAll_mem h hn)
theorem cells?_some {base:Nat} {a:Addr} {n:Nat} {cs:List Value} (h:w.cells? base a n=some cs): cs.length=n∧∀i,i < n→w.cell? (a.add i)= cs[i]?:=by
 unfold World.cells? at h
 split at h
 ·have h1:=mapM_some_length h
  refine ⟨by simpa using h1,fun i hi=>?_⟩
  have:=mapM_some_get h i i (by simp [hi])
  exact this
 ·cases h
theorem cell_lt {a:Addr} {v:Value} (h:w.cell? a=some v): a.block < w.heap.size:=by
 unfold World.cell? at h
 split at h
 ·rename_i c t f he;exact (Array.getElem?_eq_some_iff.1 he).1
 ·cases h
theorem addr_add (a:Addr) (i j:Nat): (a.add i).add j=a.add (i+j):= by
 unfold Addr.add
 by_cases hi:i=0 <;> by_cases hj:j=0 <;> simp [hi,hj,Nat.add_assoc]
theorem pick_lt {α:Type} [Inhabited α] {n:Nat} {p:Nat→α→Prop} (h : ∀i,i < n→∃x,p i x): ∃g:Nat→α,∀i,i < n→p i (g i):= by
 classical
 refine ⟨fun i=>if hi:i < n then Classical.choose (h i hi) else default,fun i hi=>?_⟩
 simp only [dif_pos hi]
 exact Classical.choose_spec (h i hi)
theorem opn_slice {t e:TypeId} (hu:P.underlying t=some (.slice e)) (hsz:P.cellsOf e=S.sz e) (hpos:0 < S.sz e) {has:S.El e→Prop} (hlen : ∀x,(S.cell e x).length=S.sz e) {nb:Nat} (hnb:P.bytesOf e=nb) (he:Opn enc P S w true e (S.El e) (S.cell e) has):
  Opn enc P S w f t (List (S.El e)) (fun xs=>[.sl e xs false]) (fun xs=>(∀x∈xs,has x)∧xs.length*nb≤140737488351232):= by
 subst hnb
 intro base spare held fuel cs x hx hw hs
 rcases DataW.trod_slice hu hx with ⟨rfl,rfl⟩| ⟨a,len,cap,elems,rest,n,_,rfl,rfl,hb,hl,hm,hel,hcs,_,_⟩
 ·exact ⟨[], .cons (.slnil e false) .nil,by simp,by simp⟩
 ·by_cases hlen0:len=0
  ·subst hlen0
   exact ⟨[], .cons (.slemp e false a cap (by simp)) .nil,by simp,by simp⟩
  have hspot:a.spot=none:=by
   have h1:=hcs 0 (by omega)
   have h2:0 < elems.length:=by omega
   rw [List.getElem?_eq_getElem h2,Option.bind_eq_some_iff] at h1
   obtain ⟨ci,hci,_⟩:= h1
   obtain ⟨hc1,hc2⟩:= cells?_some hci
   have h3:=hc2 0 (by omega)
   have hjl:0 < ci.length:=by omega
   rw [List.getElem?_eq_getElem hjl] at h3
   have e0:(a.add (0*P.cellsOf e)).add 0=a:=by simp [Addr.add]
   rw [e0] at h3
   unfold World.cell? at h3
   split at h3
   ·split at h3
    ·cases h3
    ·rename_i hs;simpa using hs
   ·cases h3
  obtain ⟨b,off,sp⟩:= a
  simp only at hspot
  subst hspot
  simp only [DataW.weights,hu] at hw
  have hbulk:=hw _ (List.mem_cons_self ..)
  have key : ∀i,i < len→∃y:S.El e,(∀j,j < S.sz e→∃v,w.cell? ⟨b,off+(i*S.sz e+j),none⟩= some v∧Γ S (env0 w) w ((S.cell e y).getD j .any) v)∧has y:=by
   intro i hi
   have h1:=hcs i hi
   have h2:i < elems.length:=by omega
   rw [List.getElem?_eq_getElem h2,Option.bind_eq_some_iff] at h1
   obtain ⟨ci,hci,hti⟩:= h1
   obtain ⟨y,hy,hh⟩:= he base spare held n ci _ hti (fun m hm=>hw m (List.mem_cons_of_mem _ (List.mem_append.2 (.inl (weightsAll_mem (List.mem_map.2 ⟨_,List.getElem_mem h2,rfl⟩) hm))))) (fun hf=>by cases hf)
   obtain ⟨hc1,hc2⟩:= cells?_some hci
   refine ⟨y,fun j hj=>?_,hh⟩
   have h3:=hc2 j (by omega)
   have hjl:j < ci.length:=by omega
   rw [addr_add,add_plain,List.getElem?_eq_getElem hjl,hsz] at h3
   refine ⟨ci[j],h3, ?_⟩
   have:=hy.2 j
   rwa [show ci.getD j undef=ci[j] by simp [List.getD,hjl]] at this
  have:Inhabited (S.El e):= ⟨S.dflt e⟩
  obtain ⟨g,hg⟩:= pick_lt key
  let xs:=(List.range len).map g
  have hxl:xs.length=len:=by simp [xs]
  have hxg : ∀i,i < len→xs.getD i (S.dflt e)= g i:=fun i hi=>by simp [xs,List.getD,hi]
  refine ⟨xs, .cons ?_ .nil,fun y hy=>?_, ?_⟩
  ·have hcell : ∀k,k < xs.length*S.sz e→∃v,w.cell? ⟨b,off+k,none⟩= some v∧Γ S (env0 w) w ((S.cell e (xs.getD (k / S.sz e) (S.dflt e))).getD (k % S.sz e) .any) v:=by
    intro k hk
    rw [hxl] at hk
    have h4:k / S.sz e < len:=Nat.div_lt_of_lt_mul (by rw [Nat.mul_comm];exact hk)
    have h5:k % S.sz e < S.sz e:=Nat.mod_lt _ hpos
    obtain ⟨v,hv1,hv2⟩:= (hg _ h4).1 _ h5
    rw [Nat.mul_comm,Nat.div_add_mod] at hv1
    exact ⟨v,hv1,by rw [hxg _ h4];exact hv2⟩
   have e1:Value.slice (some ⟨b,off,none⟩) len cap = .slice (some ⟨b,off,none⟩) xs.length cap:=by rw [hxl]
   rw [e1]
   refine .sl e xs false b off cap (fun k=>(w.cell? ⟨b,off+k,none⟩).getD undef) (fun h=>by cases h) ⟨by omega,by simp only [maxLen] at hm;omega⟩ (fun k hk=>?_) (fun i j hi=>?_)
   ·obtain ⟨v,hv1,_⟩:= hcell k hk
    exact ⟨by rw [hv1];rfl,cell_lt hv1⟩
   ·by_cases hj:j < S.sz e
    ·obtain ⟨v,hv1,hv2⟩:= (hg i (by omega)).1 j hj
     rw [hv1,hxg i (by omega)];exact hv2
    ·rw [show (S.cell e (xs.getD i (S.dflt e))).getD j AV.any = .any from by simp [List.getD,List.getElem?_eq_none (show (S.cell e (xs[i]?.getD (S.dflt e))).length≤j by rw [hlen];omega)]]
     exact .any _
  ·obtain ⟨i,hi,rfl⟩:= List.mem_map.1 hy
   exact (hg i (List.mem_range.1 hi)).2
  ·rw [hxl]
   refine Nat.le_trans (Nat.mul_le_mul_right _ ?_) hbulk
   simp only [List.length_map];omega
def OpnL {H:Type} (enc:TypeId×Value→H) (P:Program) (S:Sig) (w:World) (f:Bool) (ts:List TypeId) (X:Type) (cell:X→List (AV S.El)) (has:X→Prop): Prop :=
 ∀(base:Nat) (spare:Nat→Bool) (held:Bool) (fuel:Nat) (css:List (List Value)) (xs:List (DataW H×List MemPlace)),css.length=ts.length→(∀(i:Nat) (t:TypeId) (cs:List Value),ts[i]? = some t→css[i]? = some cs→DataW.trod enc P w base spare held fuel t cs=xs[i]?∧(xs[i]?).isSome)→
  (∀(i:Nat) (t:TypeId) (x:DataW H×List MemPlace),ts[i]? = some t→xs[i]? = some x→∀n∈x.1.weights P t,n≤reachBytes)→(f=false→∀cs∈css,∀v∈cs,sane v)→∃v:X,G2 S (env0 w) w (cell v) css.flatten∧has v
theorem opnL_nil:OpnL enc P S w f [] Unit (fun _=>[]) (fun _=>True):= by
 intro base spare held fuel css xs hl _ _ _
 have:css=[]:= List.eq_nil_of_length_eq_zero hl
 subst this
 exact ⟨(), .nil,trivial⟩
theorem opnL_cons {t:TypeId} {ts:List TypeId} {X Y:Type} {c1:X→List (AV S.El)} {c2:Y→List (AV S.El)} {h1:X→Prop} {h2:Y→Prop} (a:Opn enc P S w f t X c1 h1) (b:OpnL enc P S w f ts Y c2 h2):
  OpnL enc P S w f (t::ts) (X×Y) (fun x=>c1 x.1 ++ c2 x.2) (fun x=>h1 x.1∧h2 x.2):= by
 intro base spare held fuel css xs hl hr hw hs
 match css,hl with
 | cs::css,hl =>
  obtain ⟨r1,r2⟩:= hr 0 t cs rfl rfl
  obtain ⟨x0,hx0⟩:= Option.isSome_iff_exists.1 r2
  obtain ⟨v,hv,hh⟩:= a base spare held fuel cs x0 (r1.trans hx0) (hw 0 t x0 rfl hx0) (fun hf v hv=>hs hf cs (by simp) v hv)
  match xs,hx0 with
  | x0'::xs,hx0 =>
   obtain ⟨u,hu,hk⟩:= b base spare held fuel css xs (by simpa using hl) (fun i t' cs' ht hc=>hr (i+1) t' cs' (by simpa using ht) (by simpa using hc)) (fun i t' x ht hx=>hw (i+1) t' x (by simpa using ht) (by simpa using hx)) (fun hf cs' hc=>hs hf cs' (by simp [hc]))
   exact ⟨(v,u),by rw [List.flatten_cons];exact hv.append hu,hh,hk⟩
def layB (P:Program): Nat→List Go.Field→Nat→Bool
 | off,[],n=>Nat.beq off n
 | off,fd::l,n=>Nat.beq fd.offset off && layB P (off+P.cellsOf fd.type) l n
theorem lay_flat : ∀(l:List Go.Field) (off n:Nat) (cs:List Value),layB P off l n=true→cs.length=n→(l.map fun fd=>(cs.drop fd.offset).take (P.cellsOf fd.type)).flatten=cs.drop off
 | [],off,n,cs,h,hl=>by
  have:=Nat.eq_of_beq_eq_true h
  simp [List.drop_eq_nil_of_le,hl,this]
 | fd::l,off,n,cs,h,hl=>by
  simp only [layB,Bool.and_eq_true] at h
  have h1:=Nat.eq_of_beq_eq_true h.1
  rw [List.map_cons,List.flatten_cons,lay_flat l _ n cs h.2 hl,h1,←List.drop_drop,List.take_append_drop]
theorem weightsEach_mem : ∀{ts:List TypeId} {ds:List (DataW H)} {i:Nat} {t:TypeId} {d:DataW H},ts[i]? = some t→ds[i]? = some d→∀n∈d.weights P t,n∈DataW.weightsEach P ts ds:=fun ht hd n hn=>DataW.weights_mem_each ht hd n hn
theorem opn_struct {t:TypeId} {fs:Array Go.Field} (hu:P.underlying t=some (.struct fs)) (ts:List TypeId) (hts:fs.toList.map (·.type)= ts) (hlay:layB P 0 fs.toList (P.cellsOf t)= true) {X Y:Type} {c:X→List (AV S.El)} {h:X→Prop} (hL:OpnL enc P S w f ts X c h)
  (g:X→Y) {cell:Y→List (AV S.El)} {has:Y→Prop} (hc : ∀x,cell (g x)= c x) (hh : ∀x,h x→has (g x)): Opn enc P S w f t Y cell has:=by
 intro base spare held fuel cs x hx hw hs
 obtain ⟨xs,n,rfl,rfl,hl,hxl,hf⟩:= DataW.trod_struct hu hx
 obtain ⟨v,hv,hv2⟩:= hL base spare held n (fs.toList.map fun fd=>(cs.drop fd.offset).take (P.cellsOf fd.type)) xs (by rw [←hts];simp) (fun i t' cs' ht hcs=>by
   rw [←hts] at ht
   simp only [List.getElem?_map,Option.map_eq_some_iff] at ht hcs
   obtain ⟨fd,hfd,rfl⟩:= ht
   obtain ⟨fd',hfd',rfl⟩:= hcs
   rw [hfd] at hfd';cases hfd'
   refine ⟨hf i fd (by simpa using hfd), ?_⟩
   have:i < xs.length:=by
    have:=(List.getElem?_eq_some_iff.1 hfd).1
    rw [hxl];simpa using this
   simp [this]) (fun i t' x' ht hx' m hm=>hw m (by
   simp only [DataW.weights,hu,hts]
   exact weightsEach_mem ht (by rw [List.getElem?_map,hx'];rfl) m hm)) (fun hf cs' hcs v hv=>by
   obtain ⟨fd,_,rfl⟩:= List.mem_map.1 hcs
   exact hs hf v (List.mem_of_mem_drop (List.mem_of_mem_take hv)))
 rw [lay_flat fs.toList 0 _ cs hlay hl,List.drop_zero] at hv
 exact ⟨g v,by rw [hc];exact hv,hh v hv2⟩
theorem opn_array {t e:TypeId} {n:Nat} (hu:P.underlying t=some (.array n e)) (hsz:P.cellsOf t=n*P.cellsOf e) {X Y:Type} {c:X→List (AV S.El)} {h:X→Prop} (hL:OpnL enc P S w f (List.replicate n e) X c h)
  (g:X→Y) {cell:Y→List (AV S.El)} {has:Y→Prop} (hc : ∀x,cell (g x)= c x) (hh : ∀x,h x→has (g x)): Opn enc P S w f t Y cell has:=by
 intro base spare held fuel cs x hx hw hs
 obtain ⟨xs,m,rfl,rfl,hl,hxl,hf⟩:= DataW.trod_array hu hx
 have hfl : ∀(m off:Nat),((List.range m).map fun i=>(cs.drop ((off+i)* P.cellsOf e)).take (P.cellsOf e)).flatten=(cs.drop (off*P.cellsOf e)).take (m*P.cellsOf e):= by
  intro m
  induction m with
  | zero=>intro off;simp
  | succ m ih =>
   intro off
   rw [List.range_succ_eq_map,List.map_cons,List.flatten_cons,List.map_map]
   have:=ih (off+1)
   have e1:((fun i=>(cs.drop ((off+i)* P.cellsOf e)).take (P.cellsOf e)) ∘ Nat.succ)= fun i=>(cs.drop ((off+1+i)* P.cellsOf e)).take (P.cellsOf e):= by
    funext i;simp only [Function.comp];congr 3;omega
   rw [e1,this,Nat.add_zero,Nat.add_mul,Nat.one_mul,←List.drop_drop,←List.take_add,Nat.add_mul,Nat.one_mul,Nat.add_comm]
 obtain ⟨v,hv,hv2⟩:= hL base spare held m ((List.range n).map fun i=>(cs.drop (i*P.cellsOf e)).take (P.cellsOf e)) xs (by simp) (fun i t' cs' ht hcs=>by
   rw [List.getElem?_replicate] at ht
   split at ht
   ·rename_i hi
    cases ht
    simp only [List.getElem?_map,List.getElem?_range hi,Option.map_some,Option.some.injEq] at hcs
    subst hcs
    exact ⟨hf i hi,by simp [hxl,hi]⟩
   ·cases ht) (fun i t' x' ht hx' q hq=>hw q (by
   rw [List.getElem?_replicate] at ht
   split at ht
   ·cases ht
    simp only [DataW.weights,hu]
    exact weightsAll_mem (List.mem_map.2 ⟨_,List.mem_of_getElem? hx',rfl⟩) hq
   ·cases ht)) (fun hf cs' hcs v hv=>by
   obtain ⟨fd,_,rfl⟩:= List.mem_map.1 hcs
   exact hs hf v (List.mem_of_mem_drop (List.mem_of_mem_take hv)))
 have h0:=hfl n 0
 simp only [Nat.zero_add,Nat.zero_mul,List.drop_zero] at h0
 rw [h0,List.take_of_length_le (by omega)] at hv
 exact ⟨g v,by rw [hc];exact hv,hh v hv2⟩
theorem cell_sane {r:Reach} {b:Nat} {t:TypeId} {v:Value} (h:Cell.okWide P w r b t v): sane v:=by
 cases v <;> try exact trivial
 rename_i a n c
 cases a with
 | none=>exact trivial
 | some a =>
  have h':Cell.ok P w r b t (.slice (some a) n c):= by
   unfold Cell.okWide at h
   split at h <;> first | exact h | simp_all
  unfold Cell.ok at h'
  split at h' <;> simp_all
  exact h'.2.2.2.1
theorem arg_flat {r:Reach} {b:Nat} {t:TypeId} {v:Value} (hk:(match P.underlying t with | some (.struct _)| some (.array _ _)=> false | _=>true)= true) (h:Value.okWide P w r b t v): v.cells.toList=[v]∧∀c∈v.cells.toList,sane c:=by
 have hc:Cell.okWide P w r b t v:=by
  unfold Value.okWide at h
  split at h
  ·rename_i fs hu;rw [hu] at hk;cases hk
  ·rename_i n e hu;rw [hu] at hk;cases hk
  ·exact h
 have hv:v.cells.toList=[v]:= by
  cases v <;> try rfl
  exfalso
  rename_i cs
  have h':Cell.ok P w r b t (.agg cs):= by
   unfold Cell.okWide at hc
   split at hc <;> first | exact hc | simp_all
  unfold Cell.ok at h'
  split at h' <;> simp_all
 exact ⟨hv,fun c hm=>by rw [hv,List.mem_singleton] at hm;subst hm;exact cell_sane hc⟩
theorem arg_agg {r:Reach} {b:Nat} {t:TypeId} {v:Value} (hk:(match P.underlying t with | some (.struct _)| some (.array _ _)=> true | _=>false)= true) (h:Value.okWide P w r b t v): (∃cs:Array Value,v = .agg cs)∧∀c∈v.cells.toList,sane c:=by
 have key : ∃cs:Array Value,v = .agg cs∧Row.okWide P w r b t cs:=by
  unfold Value.okWide at h
  split at h
  ·obtain ⟨cs,rfl,_,hr⟩:= h;exact ⟨cs,rfl,hr⟩
  ·obtain ⟨cs,rfl,_,hr⟩:= h;exact ⟨cs,rfl,hr⟩
  ·rename_i h1 h2
   split at hk
   ·rename_i fs hu;exact absurd hu (h1 fs)
   ·rename_i n e hu;exact absurd hu (h2 n e)
   ·cases hk
 obtain ⟨cs,rfl,ts,_,_,hr⟩:= key
 refine ⟨⟨cs,rfl⟩,fun c hm=>?_⟩
 have hm':c∈cs.toList:=hm
 obtain ⟨i,hi,rfl⟩:= List.getElem_of_mem hm'
 obtain ⟨u,_,hu⟩:= hr i _ (by rw [←Array.getElem?_toList,List.getElem?_eq_getElem hi])
 exact cell_sane hu
theorem open_flat {base:Nat} {spare:Nat→Bool} {held:Bool} {r:Reach} {b:Nat} {t:TypeId} {v:Value} {d:DataW H} {p:List MemPlace} (hk:(match P.underlying t with | some (.struct _)| some (.array _ _)=> false | _=>true)= true) {X:Type} {cell:X→AV S.El} {has:X→Prop} (ho:Opn enc P S w false t X (fun x=>[cell x]) has)
  (hv:Value.okWide P w r b t v) (hd:DataW.Trod enc P w base spare held t v d p) (hw : ∀n∈d.weights P t,n≤reachBytes): ∃x:X,Γ S (env0 w) w (cell x) v∧has x:=by
 obtain ⟨h1,h2⟩:= arg_flat hk hv
 obtain ⟨fuel,hf⟩:= hd
 obtain ⟨x,hx,hh⟩:= ho base spare held fuel _ _ hf hw (fun _=>h2)
 rw [h1] at hx
 obtain ⟨u,us,he,hg,_⟩:= hx.uncons
 cases he
 exact ⟨x,hg,hh⟩
theorem open_agg {base:Nat} {spare:Nat→Bool} {held:Bool} {r:Reach} {b:Nat} {t:TypeId} {v:Value} {d:DataW H} {p:List MemPlace} (hk:(match P.underlying t with | some (.struct _)| some (.array _ _)=> true | _=>false)= true) {X:Type} {cell:X→List (AV S.El)} {has:X→Prop} (ho:Opn enc P S w false t X cell has)
  (hv:Value.okWide P w r b t v) (hd:DataW.Trod enc P w base spare held t v d p) (hw : ∀n∈d.weights P t,n≤reachBytes): ∃x:X,Γ S (env0 w) w (.agg (cell x)) v∧has x:=by
 obtain ⟨⟨cs,rfl⟩,h2⟩:= arg_agg hk hv
 obtain ⟨fuel,hf⟩:= hd
 obtain ⟨x,hx,hh⟩:= ho base spare held fuel _ _ hf hw (fun _=>h2)
 exact ⟨x,G2.agg hx,hh⟩
theorem law_of {C:Cx} {X:Type} {dec:List (AV C.S.El)→Option X} {pre:X→List Prop} {res:X→AV C.S.El} {news:X→List (AObj C.S.El)} {fid:FuncId} (h:CtOk C fid (ctOf dec pre res news)) {args:List (AV C.S.El)} {vals:List Value} {x:X} (hd:dec args=some x) (hp : ∀p∈pre x,p)
  (hr:res x = .v (.bool true)) (hlt:args.all (lt1 0)= true) {w:World} (hg:G2 C.S (env0 w) w args vals) (hgl : ∀g,Γ C.S (env0 w) w (C.S.glob g) (.pointer (some ⟨g,0,none⟩))): Calls C.P fid vals.toArray w fun e w'=>e = .returned (.bool true)∧Below w.heap.size w w' :=
 law_of_ct h (ps:=pre x) (news:=news x) (by unfold ctOf;rw [hd,←hr];rfl) hp hlt hg hgl
theorem weights_arg {ts:List TypeId} {ds gs:List (DataW H)} {us:List TypeId} (h:(DataW.weightsEach P (ts ++ us) (ds ++ gs)).all (·≤reachBytes)= true) {j:Nat} {t:TypeId} {d:DataW H} (ht:(ts ++ us)[j]? = some t) (hd:(ds ++ gs)[j]? = some d): ∀n∈d.weights P t,n≤reachBytes:=by
 intro n hn
 have:=List.all_eq_true.1 h n (DataW.weights_mem_each ht hd n hn)
 simpa using this
end
end Go.Aw
end
section
/-
  Summaries of inlined calls: for arguments and own things of a given form (own work).
-/
set_option linter.unusedVariables false
namespace Go.Aw
open Go
section
variable {S:Sig} {B:Nat} {env:Env} {w:World}
def OImp (o o':AObj S.El): Prop:=o=o'∨∃cs ds,o = .cells cs∧o' = .cells ds∧Imp (S:=S) cs ds
def HImp:List (AObj S.El)→List (AObj S.El)→Prop
 | [],[]=> True
 | o::l,o'::l'=>OImp o o'∧HImp l l'
 | _,_=>False
theorem HImp.len : ∀{H H':List (AObj S.El)},HImp H H'→H.length=H'.length
 | [],[],_=>rfl
 | _::_,_::_,h=>by simp [HImp.len h.2]
theorem HImp.obj : ∀{H H':List (AObj S.El)},HImp H H'→∀i,OImp (Go.Aw.obj H i) (Go.Aw.obj H' i)
 | [],[],_,i => .inl rfl
 | _::_,_::_,h,0=>h.1
 | _::_,_::_,h,i+1=>HImp.obj h.2 i
theorem OImp.live {o o':AObj S.El} (h:OImp o o'): live o=live o':=by
 rcases h with rfl | ⟨cs,ds,rfl,rfl,_⟩ <;> rfl
theorem HImp.inv {H H':List (AObj S.El)} (h:HImp H H') (hI:Inv S B env w H): Inv S B env w H':=by
 refine ⟨fun i=>?_,fun i v b hl=>hI.free i v b ((h.obj i).live.trans hl),fun i j u v b h1 h2=>hI.apart i j u v b ((h.obj i).live.trans h1) ((h.obj j).live.trans h2),hI.inheap,fun i v hv=>by rw [←h.len];exact hI.fresh i v hv,hI.glob,hI.base⟩
 have ho:=hI.objs i
 rcases h.obj i with e | ⟨cs,ds,e1,e2,hi⟩
 ·rw [←e];exact ho
 ·rw [e1] at ho
  rw [e2]
  obtain ⟨b,vs,T,q1,q2,q3,q4⟩:= ho
  exact ⟨b,vs,T,q1,q2,q3,hi env w _ q4⟩
theorem HImp.refl : ∀H:List (AObj S.El),HImp H H
 | []=> trivial
 | _::l=>⟨.inl rfl,HImp.refl l⟩
end
section
variable {El:TypeId→Type} {R:Type}
def popG (i:Nat) (cs:List (AV El)) (f:List (AV El)→Option R): Option R :=
 match cs with
 | .gs j::l=>bif Nat.beq j i then f l else none
 | _=>none
def refsB:List (AV El)→List (Nat×Nat)→Bool
 | [],[]=> true
 | .ref i o::l,(j,p):: m=>Nat.beq i j && Nat.beq o p && refsB l m
 | _,_=>false
def refsOf (m:List (Nat×Nat)): List (AV El):= m.map fun p => .ref p.1 p.2
def popK (g:FuncId) (refs:List (Nat×Nat)) (cs:List (AV El)) (f:List (AV El)→Option R): Option R :=
 match cs with
 | .clo g' caps::l=>bif Nat.beq g' g && refsB caps refs then f l else none
 | _=>none
def popHC {X:Type} (dec:List (AV El)→Option X) (H:List (AObj El)) (f:X→List (AObj El)→Option R): Option R :=
 match H with
 | .cells cs::l=>match dec cs with
  | some x=>f x l
  | none=>none
 | _=>none
def popHR (t:TypeId) (H:List (AObj El)) (f:List (El t)→List (AObj El)→Option R): Option R :=
 match H with
 | .row u xs::l=>if h:u=t then f (h ▸ xs) l else none
 | _=>none
def popHE (H:List (AObj El)) (x:R): Option R :=
 match H with
 | []=> some x
 | _=>none
theorem popG_some {i:Nat} {cs:List (AV El)} {f:List (AV El)→Option R} {r:R} (h:popG i cs f=some r): ∃l,cs = .gs i::l∧f l=some r:=by
 unfold popG at h
 split at h
 ·obtain ⟨h1,h2⟩:= cond_some h
  have:=Nat.eq_of_beq_eq_true h1
  subst this
  exact ⟨_,rfl,h2⟩
 ·cases h
theorem refsB_eq : ∀{cs:List (AV El)} {m:List (Nat×Nat)},refsB cs m=true→cs=refsOf m
 | [],[],_=>rfl
 | .ref i o::l,(j,p):: m,h=>by
  simp only [refsB,Bool.and_eq_true] at h
  have h1:=Nat.eq_of_beq_eq_true h.1.1
  have h2:=Nat.eq_of_beq_eq_true h.1.2
  subst h1;subst h2
  simp [refsOf,refsB_eq h.2]
theorem popK_some {g:FuncId} {refs:List (Nat×Nat)} {cs:List (AV El)} {f:List (AV El)→Option R} {r:R} (h:popK g refs cs f=some r): ∃l,cs = .clo g (refsOf refs):: l∧f l=some r:=by
 unfold popK at h
 split at h
 ·obtain ⟨h1,h2⟩:= cond_some h
  simp only [Bool.and_eq_true] at h1
  have:=Nat.eq_of_beq_eq_true h1.1
  subst this
  exact ⟨_,by rw [refsB_eq h1.2],h2⟩
 ·cases h
theorem popHE_some {H:List (AObj El)} {x r:R} (h:popHE H x=some r): H=[]∧x=r:=by
 unfold popHE at h
 split at h
 ·cases h;exact ⟨rfl,rfl⟩
 ·cases h
end
section
variable {S:Sig} {R:Type}
theorem popHC_some {X:Type} {dec:List (AV S.El)→Option X} {cells:X→List (AV S.El)} (hdec : ∀cs x,dec cs=some x→Imp cs (cells x)) {H:List (AObj S.El)} {f:X→List (AObj S.El)→Option R} {r:R} (h:popHC dec H f=some r):
  ∃x l,f x l=some r∧∀H',HImp l H'→HImp H (.cells (cells x):: H'):= by
 unfold popHC at h
 split at h
 ·split at h
  ·rename_i x hx
   exact ⟨x,_,h,fun H' hh=>⟨.inr ⟨_,_,rfl,rfl,hdec _ _ hx⟩,hh⟩⟩
  ·cases h
 ·cases h
theorem popHR_some {t:TypeId} {H:List (AObj S.El)} {f:List (S.El t)→List (AObj S.El)→Option R} {r:R} (h:popHR t H f=some r): ∃xs l,f xs l=some r∧∀H',HImp l H'→HImp H (.row t xs::H'):= by
 unfold popHR at h
 split at h
 ·split at h
  ·rename_i hu
   subst hu
   exact ⟨_,_,h,fun H' hh=>⟨.inl rfl,hh⟩⟩
  ·cases h
 ·cases h
end
abbrev SumI (El:TypeId→Type):= FuncId→List (AV El)→List (AObj El)→Option (List Prop×AV El×List (AObj El))
def sum0 {El:TypeId→Type}: SumI El:=fun _ _ _=>none
def SumTab (P:Program) (S:Sig) (I:SumI S.El): Prop:=∀f args H ps r H',I f args H=some (ps,r,H')→SumOk P S f args H ps r H'
theorem sum0_ok (P:Program) (S:Sig): SumTab P S sum0:=fun _ _ _ _ _ _ h=>by cases h
def sumOf {El:TypeId→Type} {X:Type} (f0:FuncId) (dec:List (AV El)→List (AObj El)→Option X) (ps:X→List Prop) (res:X→AV El) (Hs:X→List (AObj El)) (prev:SumI El): SumI El:=fun f args H =>
 bif Nat.beq f f0 then (match dec args H with
  | some x=>some (ps x,res x,Hs x)
  | none=>prev f args H) else prev f args H
def sumS {El:TypeId→Type} (n:Nat) (r:AV El) (H:List (AObj El)): St El:={lo:=n,slots:=[(0,r)],n:=1,objs:=H}
def forget {El:TypeId→Type} (H:List (AObj El)) (gs:List Nat): List (AObj El):= gs.foldl (fun H i=>setN H i .gone) H
def sumK {El:TypeId→Type} (gs:List Nat) (n:Nat) (r:AV El) (H:List (AObj El)) (r':AV El) (H':List (AObj El)): Prop :=
 okH [0] [] (sumS n (deref1 (freezeAll H' (owns1 r')) r') (forget (freezeAll H' (owns1 r')) gs))= true∧headS [0] [] (sumS n (deref1 (freezeAll H' (owns1 r')) r') (forget (freezeAll H' (owns1 r')) gs))= sumS n r H
section
variable {C:Cx}
theorem forget_ok {B:Nat} {env:Env} {w:World}: ∀(gs:List Nat) (H:List (AObj C.S.El)),Inv C.S B env w H→Inv C.S B env w (forget H gs)∧(forget H gs).length=H.length
 | [],H,h=>⟨h,rfl⟩
 | i::gs,H,h=>by
  obtain ⟨h1,h2⟩:= forget_ok gs (setN H i .gone) (h.forget i)
  exact ⟨h1,h2.trans (by rw [setN_eq,List.length_set])⟩
theorem sum_of_fun (hC:CxOk C) {f:FuncId} {args:List (AV C.S.El)} {H:List (AObj C.S.El)} {r:AV C.S.El} {H':List (AObj C.S.El)} {ps:List Prop} (hpl:Plain C.P f) (fuel:Nat) (gs:List Nat) (h:(∀p∈ps,p)→evFun C fuel f args H (sumK gs H.length r H')): SumOk C.P C.S f args H ps r H':=by
 refine ⟨hpl,fun hp B env w vals hg hI=>?_⟩
 refine ((evFun_sound hC fuel).1 f args H _ (h hp) B env w vals hg hI).mono ?_
 rintro e w' ⟨v,env1,r1,H1,he,⟨hk1,hk2⟩,hΓ,hI1,hE,hlen⟩
 obtain ⟨envf,v1,If,Ef,lf,ff⟩:= freezeAll_sound hC.sig (owns1 r1) env1 H1 hI1
 have hΓf:=deref1_sound If (hΓ.ext Ef hI1.fresh) ff
 obtain ⟨Ig,lg⟩:= forget_ok gs _ If
 have hEf:Ext B H.length env w envf w':=hE.trans (Ef.mono hlen)
 have hr:Rel C B envf (sumS H.length (deref1 (freezeAll H1 (owns1 r1)) r1) (forget (freezeAll H1 (owns1 r1)) gs)) {tmps:=#[v],defers:=[]} w':=by
  refine ⟨rfl,rfl,fun t=>?_,Ig,by show H.length≤_;simp only [sumS];omega⟩
  simp only [sumS,lk]
  cases t with
  | zero=>exact hΓf
  | succ t=>exact .any _
 obtain ⟨env2,hr2,hE2,hlo⟩:= hr.ge hC.sig (headS_ge [0] [] _ hk1)
 rw [hk2] at hr2 hE2
 have h0:=hr2.slots 0
 exact ⟨v,env2,he,by simpa [sumS,lk] using h0,hr2.inv,hEf.trans (by simpa [sumS] using hE2),by simpa [sumS] using hr2.lo⟩
theorem sum_mk (hC:CxOk C) {f0:FuncId} {X:Type} {dec:List (AV C.S.El)→List (AObj C.S.El)→Option X} {enc:X→List (AV C.S.El)} {encH:X→List (AObj C.S.El)} (hdec : ∀args H x,dec args H=some x→Imp args (enc x)∧HImp H (encH x)) {ps:X→List Prop} {res:X→AV C.S.El} {Hs:X→List (AObj C.S.El)}
  (hpl:plainB C.P f0=true) (fuel:Nat) (gs:List Nat) (h : ∀x,(∀p∈ps x,p)→evFun C fuel f0 (enc x) (encH x) (sumK gs (encH x).length (res x) (Hs x))) {prev:SumI C.S.El} (hprev:SumTab C.P C.S prev): SumTab C.P C.S (sumOf f0 dec ps res Hs prev):= by
 intro f args H p r H' hi
 unfold sumOf at hi
 cases hf:Nat.beq f f0
 ·rw [hf,cond_false] at hi;exact hprev f args H p r H' hi
 ·rw [hf,cond_true] at hi
  split at hi
  ·rename_i x hx
   cases hi
   have:=Nat.eq_of_beq_eq_true hf
   subst this
   obtain ⟨q1,q2⟩:= hdec args H x hx
   obtain ⟨_,hs⟩:= sum_of_fun (ps:=ps x) hC (plainB_ok hpl) fuel gs (h x)
   refine ⟨plainB_ok hpl,fun hp B env w vals hg hI=>?_⟩
   rw [q2.len]
   exact hs hp B env w vals (q1 env w _ hg) (q2.inv hI)
  ·exact hprev f args H p r H' hi
end
def mkCxI (P:Program) (S:Sig) (tab:List (FuncId×Ct S.El)) (u:Nat) (win:Bool) (I:SumI S.El): Cx:={P:=P,S:=S,T:=lookT tab,F:=autoF P,unroll:=u,win:=win,I:=I}
theorem mkCxI_ok {P:Program} {S:Sig} (hS:SigOk S) (hm:P.follows .mixedOrders=true) {tab:List (FuncId×Ct S.El)} (ht:TabOk P S tab) (u:Nat) (win:Bool) {I:SumI S.El} (hI:SumTab P S I): CxOk (mkCxI P S tab u win I):=
 have h:=mkCx_ok hS hm ht u
 ⟨h.sig,h.ct,h.plainT,h.fn,h.mixed,hI⟩
def mkCxL (P:Program) (S:Sig) (tab:List (FuncId×Ct S.El)) (u:Nat) (win tl:Bool) (I:SumI S.El): Cx:={P:=P,S:=S,T:=lookT tab,F:=autoF P,unroll:=u,win:=win,tl:=tl,tr:=tl,I:=I}
theorem mkCxL_ok {P:Program} {S:Sig} (hS:SigOk S) (hm:P.follows .mixedOrders=true) {tab:List (FuncId×Ct S.El)} (ht:TabOk P S tab) (u:Nat) (win tl:Bool) {I:SumI S.El} (hI:SumTab P S I): CxOk (mkCxL P S tab u win tl I):=
 have h:=mkCx_ok hS hm ht u
 ⟨h.sig,h.ct,h.plainT,h.fn,h.mixed,hI⟩
def mkCxF (P:Program) (S:Sig) (tab:List (FuncId×Ct S.El)): Cx:={P:=P,S:=S,T:=lookT tab,F:=autoF P,unroll:=0,fz:=true}
theorem mkCxF_ok {P:Program} {S:Sig} (hS:SigOk S) (hm:P.follows .mixedOrders=true) {tab:List (FuncId×Ct S.El)} (ht:TabOk P S tab): CxOk (mkCxF P S tab):=
 have h:=mkCx_ok hS hm ht 0
 ⟨h.sig,h.ct,h.plainT,h.fn,h.mixed,h.sum⟩
end Go.Aw
end
section
/-
  A reckoning in which the calls of one function are told by a law of its own (own work).
-/
set_option linter.unusedVariables false
namespace Go.Aw
open Go
def InlLe {El:TypeId→Type} (inl inl':Inl El): Prop:=∀f args H K,inl f args H K→inl' f args H K
section
variable {C:Cx} {inl inl':Inl C.S.El}
theorem evOne_inl (hl:InlLe inl inl') {o:Oper} {st:St C.S.El} {K:St C.S.El→Prop} (k:evOne C inl o st K): evOne C inl' o st K:=by
 unfold evOne at k ⊢
 split at k
 ·exact k
 ·split at k
  ·exact k
  split at k
  ·exact k
  ·split at k
   ·split at k
    ·exact also_mono (hl _ _ _ _) k
    ·exact k.elim
   ·exact k
   ·exact k
   ·exact k.elim
theorem evOps_inl (hl:InlLe inl inl') (hm:InlMono inl') {all:List Oper} {K:St C.S.El→Prop}: ∀(l:List Oper) (st:St C.S.El),evOps C inl all l st K→evOps C inl' all l st K
 | [],st,k=>k
 | o::rest,st,k=>by
  unfold evOps at k ⊢
  split at k
  ·exact evOne_mono hm (fun s k=>evOps_inl hl hm rest s k) (evOne_inl hl k)
  ·split at k
   ·exact k.elim
   ·split at k
    ·split at k
     ·exact also_mono (evOps_inl hl hm rest _) k
     ·exact k.elim
    ·rw [cond_both] at k ⊢
     refine ⟨fun hg=>evOne_mono hm (fun s k=>evOps_inl hl hm rest s k) (evOne_inl hl (k.1 hg)),fun hg=>?_⟩
     have k:=k.2 hg
     revert k
     split
     ·exact evOps_inl hl hm rest _
     ·exact id
theorem rounds_inl {f f':St C.S.El→(AExit→St C.S.El→Prop)→Prop} (hf : ∀s K,f s K→f' s K) (hm : ∀s K K',(∀e s,K e s→K' e s)→f' s K→f' s K') {K:AExit→St C.S.El→Prop}: ∀(n:Nat) (s:St C.S.El),rounds f n s K→rounds f' n s K
 | 0,_,k=>k.elim
 | n+1,s,k=>hm s _ _ (fun e s' k=>by
  cases e with
  | normal=>exact rounds_inl hf hm n s' k
  | _=>exact k) (hf s _ k)
theorem evCode_inl (hl:InlLe inl inl') (hm:InlMono inl'): ∀(c:Code) (st:St C.S.El) {K:AExit→St C.S.El→Prop},evCode C inl c st K→evCode C inl' c st K
 | .skip,st,K,k=>k
 | .region _ ops draw,st,K,k=>by
  unfold evCode at k ⊢
  cases draw with
  | false=>exact evOps_inl hl hm _ _ k
  | true =>
   dsimp only at k ⊢
   cases hb:(edgesOk ops.toList && (apartOk ops.toList (bitsBefore ops.toList) && tailOk ops.toList (bitsBefore ops.toList) (pickM C ops.toList))) with
   | false=>rw [hb] at k;exact k.elim
   | true =>
    rw [hb] at k
    exact evDs_mono (fun l s k=>evOps_inl hl hm _ _ k) _ _ _ _ _ _ k
 | .seq a b,st,K,k=>by
  unfold evCode at k ⊢
  refine evCode_mono hm a st (fun e s k=>?_) (evCode_inl hl hm a st k)
  cases e with
  | normal=>exact evCode_inl hl hm b s k
  | _=>exact k
 | .cond c x y,st,K,k=>by
  unfold evCode at k ⊢
  split at k
  ·rw [cond_both] at k ⊢
   exact ⟨fun hb=>evCode_inl hl hm x _ (k.1 hb),fun hb=>evCode_inl hl hm y _ (k.2 hb)⟩
  ·exact k.elim
 | .block id b,st,K,k=>by
  unfold evCode at k ⊢
  exact evCode_inl hl hm b st k
 | .loop b,st,K,k=>by
  unfold evCode at k ⊢
  cases hun:unr C b with
  | succ n =>
   rw [hun] at k
   exact rounds_inl (fun s K k=>evCode_inl hl hm b s k) (fun s K K' h k=>evCode_mono hm b s h k) _ _ k
  | zero =>
  rw [hun] at k
  simp only at k ⊢
  obtain ⟨I,n,s0,h1,h2,h3⟩:= k
  exact ⟨I,n,s0,h1,h2,fun n s hI=>evCode_inl hl hm b s (h3 n s hI)⟩
 | .exit _,st,K,k=>k
 | .ret,st,K,k=>k
 | .rangeFunc ..,st,K,k=>by unfold evCode at k;exact k.elim
 | .scope b,st,K,k=>by
  unfold evCode at k ⊢
  exact evCode_inl hl hm b st k
 | .label _,st,K,k=>k
 | .goto ..,st,K,k=>by unfold evCode at k;exact k.elim
 | .refuse ..,st,K,k=>by unfold evCode at k;exact k.elim
theorem evFun_up (C:Cx): ∀n,InlLe (evFun C n) (evFun C (n+1))
 | 0,f,args,H,K,k=>by unfold evFun at k;exact k.elim
 | n+1,f,args,H,K,k=>by
  unfold evFun at k ⊢
  split at k
  ·exact k
  split at k
  ·exact k.elim
  ·split at k
   ·exact k.elim
   ·exact evCode_inl (evFun_up C n) (evFun_mono C _) _ _ k
theorem evFun_ups (C:Cx) (m:Nat): ∀n,InlLe (evFun C m) (evFun C (n+m))
 | 0=>by rw [Nat.zero_add];exact fun _ _ _ _ k=>k
 | n+1=>fun f args H K k=>by
  rw [show n+1+m=n+m+1 by omega]
  exact evFun_up C _ f args H K (evFun_ups C m n f args H K k)
end
def evFunR (C:Cx) (f0:FuncId) (R:List (AV C.S.El)→List (AObj C.S.El)→(AV C.S.El→List (AObj C.S.El)→Prop)→Prop): Nat→Inl C.S.El
 | 0,_,_,_,_=>False
 | fuel+1,f,args,H,K=>match Nat.beq f f0 with
  | true=>R args H K
  | false=>match C.I f args H with
   | some (ps,r,H')=> also ps (K r H')
   | none=>match C.F f with
   | none=>False
   | some fn=>match fn.body with
    | none=>False
    | some c=>evCode C (evFunR C f0 R fuel) c {lo:=H.length,slots:=enum 0 args,n:=bif Nat.ble args.length fn.ntmps then fn.ntmps else args.length,objs:=H} fun e st=>match e with
     | .exit _=>False
     | _=>match resultsA C fn st with
      | some r=>retK C H.length r st.objs K
      | none=>False
theorem evFunR_le {C:Cx} {f0:FuncId} {R:List (AV C.S.El)→List (AObj C.S.El)→(AV C.S.El→List (AObj C.S.El)→Prop)→Prop} (m:Nat) (hR : ∀args H K,R args H K→evFun C m f0 args H K): ∀n,InlLe (evFunR C f0 R n) (evFun C (n+m))
 | 0,f,args,H,K,k=>by unfold evFunR at k;exact k.elim
 | n+1,f,args,H,K,k=>by
  unfold evFunR at k
  split at k
  ·rename_i hf
   have:=Nat.eq_of_beq_eq_true hf
   subst this
   exact evFun_ups C m (n+1) _ _ _ _ (hR _ _ _ k)
  ·rw [show n+1+m=n+m+1 by omega]
   unfold evFun
   revert k
   cases C.I f args H with
   | some x=>exact id
   | none =>
    dsimp only
    cases C.F f with
    | none=>exact id
    | some fn =>
     dsimp only
     cases fn.body with
     | none=>exact id
     | some c=>exact fun k=>evCode_inl (evFunR_le m hR n) (evFun_mono C _) _ _ k
end Go.Aw
end
