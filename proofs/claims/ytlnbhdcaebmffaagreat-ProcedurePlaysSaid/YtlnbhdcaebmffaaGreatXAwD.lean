/-
  Code and functions (own work).
-/
import Derived.Test.YtlnbhdcaebmffaaGreatXAwR
import Derived.Scope
set_option linter.unusedSimpArgs false
set_option linter.unusedVariables false
namespace Go.Aw
open Go.RowKit
section
variable {C:Cx} {env:Env} {w:World} {B:Nat}
theorem learn_lo (st:St C.S.El) (c:Operand) (b:Bool): (learn st c b).lo=st.lo:=by cases c <;> rfl
theorem Rel.learn {B:Nat} {env:Env} {w:World} {st:St C.S.El} {a:Act} (hr:Rel C B env st a w) {c:Operand} {b:Bool} (hc:a.eval c = .bool b): Rel C B env (learn st c b) a w:=by
 cases c with
 | tmp t =>
  refine ⟨hr.size,hr.defers,fun k=>?_,hr.inv,hr.lo⟩
  show Γ C.S env w (lk ((t, .v (.bool b)):: st.slots) k) _
  simp only [lk]
  cases hk:Nat.beq t k
  ·rw [cond_false];exact hr.slots k
  ·rw [cond_true]
   have:=Nat.eq_of_beq_eq_true hk
   subst this
   have e:a.tmps.getD t undef = .bool b:=hc
   rw [e];exact .v _
 | _=>exact hr
theorem evCode_sound (hC:CxOk C) {inl:Inl C.S.El} (hinl:InlOk C inl) (hplainF : ∀f args H K,inl f args H K→Plain C.P f): ∀(c:Code) (st:St C.S.El) (K:AExit→St C.S.El→Prop) (env:Env) (a:Act) (w:World) (Q:Exit→Act→World→Prop),
  evCode C inl c st K→Rel C B env st a w→Post C B st env w K Q→c.wp C.P Q a w
 | .skip,st,K,env,a,w,Q,h,hr,hQ=>wp_skip (hQ .normal st env a w h hr rfl (Ext.refl _ _ _ _))
 | .ret,st,K,env,a,w,Q,h,hr,hQ=>wp_ret (hQ .ret st env a w h hr rfl (Ext.refl _ _ _ _))
 | .exit id,st,K,env,a,w,Q,h,hr,hQ=>wp_exit (hQ (.exit id) st env a w h hr rfl (Ext.refl _ _ _ _))
 | .region id ops draw,st,K,env,a,w,Q,h,hr,hQ=>by
  cases draw
  ·simp only [evCode] at h
   have hw:=evOps_sound hC hinl hplainF ops.toList (Q:=Q) ops.toList st _ env a w h hr (fun st' env' a' w' h1 h2 h3 h4=>hQ .normal st' env' a' w' h1 h2 h3 h4)
   have:=wp_region_lit (id:=id) hw
   simpa using this
  ·simp only [evCode] at h
   cases ha:anyB C ops.toList with
   | true =>
    rw [ha,cond_true] at h
    exact any_draw hC hinl hplainF h hr fun st' env' a' w' h1 h2 h3 h4=>hQ .normal st' env' a' w' h1 h2 h3 h4
   | false =>
   rw [ha,cond_false] at h
   have hc:(edgesOk ops.toList && (apartOk ops.toList (bitsBefore ops.toList) && tailOk ops.toList (bitsBefore ops.toList) (pickM C ops.toList)))= true:=by
    cases hb:(edgesOk ops.toList && (apartOk ops.toList (bitsBefore ops.toList) && tailOk ops.toList (bitsBefore ops.toList) (pickM C ops.toList)))
    ·rw [hb] at h;exact h.elim
    ·rfl
   rw [hc,cond_true] at h
   simp only [Bool.and_eq_true] at hc
   obtain ⟨hrs,hlo,hsp⟩:= hr.spare ops.toList
   exact draw_sound hC hinl hplainF hc.1 hc.2.1 hc.2.2 hsp h hrs fun st' env' a' w' h1 h2 h3 h4=>hQ .normal st' env' a' w' h1 h2 (h3.trans hlo) (by rw [hlo] at h4;exact h4)
 | .seq x y,st,K,env,a,w,Q,h,hr,hQ=>by
  simp only [evCode] at h
  refine wp_seq (evCode_sound hC hinl hplainF x st _ env a w _ h hr fun e st' env' a' w' h1 h2 h3 h4=>?_)
  cases e with
  | normal=>exact evCode_sound hC hinl hplainF y st' K env' a' w' Q h1 h2 fun e st2 env2 a2 w2 k1 k2 k3 k4=>hQ e st2 env2 a2 w2 k1 k2 (k3.trans h3) (h4.trans (by rw [h3] at k4;exact k4))
  | exit id=>exact hQ (.exit id) st' env' a' w' h1 h2 h3 h4
  | ret=>exact hQ .ret st' env' a' w' h1 h2 h3 h4
 | .cond c x y,st,K,env,a,w,Q,h,hr,hQ=>by
  simp only [evCode] at h
  split at h
  ·rename_i b hb
   have hl:=look_sound hr c
   rw [hb] at hl
   rw [cond_both] at h
   exact wp_cond_split hl.unv (fun ht=>evCode_sound hC hinl hplainF x _ K env a w Q (h.1 ht) (hr.learn (by rw [hl.unv,ht])) fun e st' env' a' w' h1 h2 h3 h4=>hQ e st' env' a' w' h1 h2 (h3.trans (learn_lo _ _ _)) (by rw [learn_lo] at h4;exact h4))
    (fun hf=>evCode_sound hC hinl hplainF y _ K env a w Q (h.2 hf) (hr.learn (by rw [hl.unv,hf])) fun e st' env' a' w' h1 h2 h3 h4=>hQ e st' env' a' w' h1 h2 (h3.trans (learn_lo _ _ _)) (by rw [learn_lo] at h4;exact h4))
  ·exact h.elim
 | .scope b,st,K,env,a,w,Q,h,hr,hQ=>by
  simp only [evCode] at h
  refine wp_scope_straight (evCode_sound hC hinl hplainF b st _ env a w _ h hr fun e st' env' a' w' h1 h2 h3 h4=>?_)
  cases e with
  | normal=>exact hQ .normal st' env' a' w' h1 h2 h3 h4
  | ret=>exact hQ .ret st' env' a' w' h1 h2 h3 h4
  | exit i=>exact hQ (.exit i) st' env' a' w' h1 h2 h3 h4
 | .label l,st,K,env,a,w,Q,h,hr,hQ=>wp_label (hQ .normal st env a w (by simpa only [evCode] using h) hr rfl (Ext.refl _ _ _ _))
 | .block id b,st,K,env,a,w,Q,h,hr,hQ=>by
  simp only [evCode] at h
  refine wp_block (evCode_sound hC hinl hplainF b st _ env a w _ h hr fun e st' env' a' w' h1 h2 h3 h4=>?_)
  cases e with
  | normal=>exact hQ .normal st' env' a' w' h1 h2 h3 h4
  | ret=>exact hQ .ret st' env' a' w' h1 h2 h3 h4
  | exit i =>
   simp only at h1
   cases hi:Nat.beq i id
   ·rw [hi,cond_false] at h1
    have hne : ¬i=id:=fun e=>by subst e;simp at hi
    simp only [exitOf,Exit.inBlock,hne,if_false]
    exact hQ (.exit i) st' env' a' w' h1 h2 h3 h4
   ·rw [hi,cond_true] at h1
    have he:=Nat.eq_of_beq_eq_true hi
    simp only [exitOf,Exit.inBlock,he,if_true]
    exact hQ .normal st' env' a' w' h1 h2 h3 h4
 | .loop b,st,K,env,a,w,Q,h,hr,hQ=>by
  simp only [evCode] at h
  cases hun:unr C b with
  | succ n =>
   rw [hun] at h
   simp only at h
   refine wp_loop_ghost (fun k a' w' => ∃s env',rounds (fun s K'=>evCode C inl b s K') k s K∧Rel C B env' s a' w'∧s.lo=st.lo∧Ext B st.lo env w env' w') (n+1) ⟨st,env,h,hr,rfl,Ext.refl _ _ _ _⟩ ?_
   rintro k a' w' ⟨s,env',h1,h2,h3,h4⟩
   cases k with
   | zero=>exact h1.elim
   | succ k =>
    refine evCode_sound hC hinl hplainF b s _ env' a' w' _ h1 h2 fun e st' env2 a2 w2 k1 k2 k3 k4=>?_
    have k5:Ext B st.lo env w env2 w2:=h4.trans (by rw [h3] at k4;exact k4)
    cases e with
    | normal=>exact ⟨k,Nat.lt_succ_self k,st',env2,k1,k2,k3.trans h3,k5⟩
    | exit id=>exact hQ (.exit id) st' env2 a2 w2 k1 k2 (k3.trans h3) k5
    | ret=>exact hQ .ret st' env2 a2 w2 k1 k2 (k3.trans h3) k5
  | zero =>
  rw [hun] at h
  simp only at h
  obtain ⟨I,n,s0,hI,hle,hround⟩:= h
  obtain ⟨env0,hr0,hE0,hlo0⟩:= hr.ge hC.sig hle
  refine wp_loop_ghost (fun n a' w' => ∃s env',I n s∧Rel C B env' s a' w'∧s.lo=st.lo∧Ext B st.lo env w env' w') n ⟨s0,env0,hI,hr0,hlo0,by rw [hlo0] at hE0;exact hE0⟩ ?_
  rintro n a' w' ⟨s,env',h1,h2,h3,h4⟩
  refine evCode_sound hC hinl hplainF b s _ env' a' w' _ (hround n s h1) h2 fun e st' env2 a2 w2 k1 k2 k3 k4=>?_
  have k5:Ext B st.lo env w env2 w2:=h4.trans (by rw [h3] at k4;exact k4)
  cases e with
  | normal =>
   obtain ⟨m,s2,q1,q2,q3⟩:= k1
   obtain ⟨env3,r1,r2,r3⟩:= k2.ge hC.sig q3
   exact ⟨m,q1,s2,env3,q2,r1,r3.trans (k3.trans h3),k5.trans (by rw [r3,k3,h3] at r2;exact r2)⟩
  | exit id=>exact hQ (.exit id) st' env2 a2 w2 k1 k2 (k3.trans h3) k5
  | ret=>exact hQ .ret st' env2 a2 w2 k1 k2 (k3.trans h3) k5
 | .rangeFunc ..,st,K,env,a,w,Q,h,hr,hQ=>h.elim
 | .goto _,st,K,env,a,w,Q,h,hr,hQ=>h.elim
 | .refuse _,st,K,env,a,w,Q,h,hr,hQ=>h.elim
theorem enum_lk : ∀(l:List (AV C.S.El)) (n t:Nat),lk (enum n l) t=if t < n then .any else l.getD (t - n) .any
 | [],n,t=>by simp [enum,lk]
 | x::l,n,t=>by
  simp only [enum,lk]
  cases h:Nat.beq n t
  ·rw [cond_false,enum_lk l]
   have hne:n≠t:=fun e=>by subst e;simp at h
   by_cases h1:t < n
   ·rw [if_pos (by omega),if_pos h1]
   ·rw [if_neg (by omega),if_neg h1]
    have:t - n=(t - (n+1))+ 1:=by omega
    rw [this,List.getD_cons_succ]
  ·rw [cond_true]
   have:=Nat.eq_of_beq_eq_true h
   subst this
   simp
def resV (tmps:Array Value): ResultVar→Sem Value
 | .tmp t=>pure (tmps.getD t undef)
 | .cell a t=>do loadVar t (←asAddr (tmps.getD a undef))
theorem results_one {st:St C.S.El} {a:Act} (hr:Rel C B env st a w) (hS:SigOk C.S): ∀(r:ResultVar) (x:AV C.S.El),resA C st r=some x→∃v,(resV a.tmps r).run C.P w = .ok v w∧Γ C.S env w x v
 | .tmp t,x,h=>by
  cases h
  exact ⟨_,by simp [resV],hr.slots t⟩
 | .cell ad t,x,h=>by
  simp only [resA] at h
  split at h
  ·rename_i y hy
   cases h
   obtain ⟨v,hv,hx⟩:= loadA_sound hS hr.inv hy (by simp) (hr.slots ad)
   refine ⟨v, ?_,hx⟩
   have hg:=hr.slots ad
   simp only [resV]
   generalize a.tmps.getD ad undef=u at hg hv ⊢
   have : ∃p,u = .pointer (some p):= by
    revert hy hg
    cases lk st.slots ad <;> intro hy hg <;> simp only [loadA,reduceCtorEq] at hy
    ·cases hg;exact ⟨_,rfl⟩
    ·cases hg;exact ⟨_,rfl⟩
    ·cases hg;exact ⟨_,rfl⟩
   obtain ⟨p,rfl⟩:= this
   simpa [Instr.loadAt,Instr.sureAddr,asAddr] using hv
  ·cases h
theorem results_list {st:St C.S.El} {a:Act} (hr:Rel C B env st a w) (hS:SigOk C.S): ∀(rs:List ResultVar) (xs:List (AV C.S.El)),resAll C st rs=some xs→∃vs,(rs.mapM (resV a.tmps)).run C.P w = .ok vs w∧G2 C.S env w xs vs
 | [],xs,h=>by
  cases h
  exact ⟨[],by simp, .nil⟩
 | r::rs,xs,h=>by
  simp only [resAll] at h
  split at h
  ·rename_i x ys hx hys
   cases h
   obtain ⟨v,hv,g1⟩:= results_one hr hS r x hx
   obtain ⟨vs,hvs,g2⟩:= results_list hr hS rs ys hys
   refine ⟨v::vs, ?_,g2.cons g1⟩
   simp only [List.mapM_cons]
   simp [hv,hvs]
  ·cases h
theorem results_sound {st:St C.S.El} {a:Act} (hr:Rel C B env st a w) (hS:SigOk C.S) {fn:Func} {r:AV C.S.El} (h:resultsA C fn st=some r): ∃v,(results fn a.tmps).run C.P w = .ok v w∧Γ C.S env w r v:=by
 have hrun:results fn a.tmps=(do let vs ←fn.results.mapM (resV a.tmps);pure (if h:vs.size=1 then vs[0] else .tuple vs): Sem Value):= by
  have e:(fun r=>match r with | .tmp t=>(pure (a.tmps.getD t undef): Sem Value)| .cell ad t=>do loadVar t (←asAddr (a.tmps.getD ad undef)))= resV a.tmps:=by
   funext r;cases r <;> rfl
  unfold results
  rw [←e]
  rfl
 unfold resultsA at h
 rw [hrun,Array.mapM_eq_mapM_toList]
 split at h
 ·rename_i r0 hr0
  obtain ⟨v,hv,hx⟩:= results_one hr hS r0 r h
  refine ⟨v, ?_,hx⟩
  rw [hr0]
  simp [hv]
 ·rename_i rs hne
  simp only [Option.map_eq_some_iff] at h
  obtain ⟨xs,hxs,rfl⟩:= h
  obtain ⟨vs,hvs,hg⟩:= results_list hr hS _ xs hxs
  have hll : ∀(rs:List ResultVar) (xs:List (AV C.S.El)),resAll C st rs=some xs→xs.length=rs.length:=by
   intro rs
   induction rs with
   | nil=>intro xs h;cases h;rfl
   | cons r rs ih =>
    intro xs h
    simp only [resAll] at h
    split at h
    ·rename_i x ys hx hys
     cases h
     simp [ih ys hys]
    ·cases h
  have hlen : ¬vs.length=1:=by
   intro h1
   have h2:=hll _ _ hxs
   rw [←hg.1,h1] at h2
   match hm:fn.results.toList,h2 with
   | [r0],_=>exact hne r0 hm
  exact ⟨.tuple vs.toArray,by simp [hvs,hlen], .tup xs vs.toArray (by simpa using hg.1) (by simpa using hg.2)⟩
theorem evFun_sound (hC:CxOk C): ∀fuel,InlOk C (evFun C fuel)∧∀f args H K,evFun C fuel f args H K→Plain C.P f
 | 0=>⟨fun f args H K h=>h.elim,fun f args H K h=>h.elim⟩
 | fuel+1=>by
  obtain ⟨ih1,ih2⟩:= evFun_sound hC fuel
  refine ⟨fun f args H K h B env w vals hg hI=>?_,fun f args H K h=>?_⟩
  ·simp only [evFun] at h
   split at h
   ·rename_i ps r H' hsum
    obtain ⟨hp,hK⟩:= (also_iff _ _).1 h
    refine ((hC.sum f args H ps r H' hsum).2 hp B env w vals hg hI).mono ?_
    rintro e w' ⟨v,env',he,h1,h2,h3,h4⟩
    exact ⟨v,env',r,H',he,hK,h1,h2,h3.mono (lwm_le _ _),Nat.le_trans (lwm_le _ _) h4⟩
   split at h
   ·exact h.elim
   ·rename_i fn hF
    split at h
    ·exact h.elim
    ·rename_i c hbody
     have hfn:=hC.fn f fn hF
     let st:St C.S.El:={lo:=lwm C f H.length,slots:=enum 0 args,n:=bif Nat.ble args.length fn.ntmps then fn.ntmps else args.length,objs:=H}
     have hvl:vals.toArray.size=args.length:=by simpa using hg.1
     refine calls_of_wp hfn.1 hbody ?_
     have hr:Rel C B env st {tmps:=vals.toArray ++ Array.replicate (fn.ntmps - vals.toArray.size) undef,defers:=[]} w:=by
      refine ⟨?_,rfl,fun t=>?_,hI,lwm_le _ _⟩
      ·simp only [Array.size_append,Array.size_replicate,st]
       rw [hvl]
       cases hb:Nat.ble args.length fn.ntmps
       ·rw [cond_false]
        have : ¬args.length≤fn.ntmps:=fun h=>by rw [Nat.ble_eq_true_of_le h] at hb;cases hb
        omega
       ·rw [cond_true]
        have:=Nat.le_of_ble_eq_true hb
        omega
      ·simp only [st,enum_lk,Nat.not_lt_zero,if_false,Nat.sub_zero]
       have hj:=hg.2 t
       by_cases ht:t < args.length
       ·have e1:(vals.toArray ++ Array.replicate (fn.ntmps - vals.toArray.size) undef).getD t undef=vals.getD t undef:=by
         rw [Array.getD_eq_getD_getElem?,Array.getElem?_append_left (by rw [hvl];exact ht)]
         simp [List.getD]
        rw [e1];exact hj
       ·have e2:args.getD t AV.any = .any:=by simp [List.getD,List.getElem?_eq_none (Nat.le_of_not_lt ht)]
        rw [e2];exact .any _
     refine evCode_sound hC ih1 ih2 c st _ env _ w _ h hr fun e st' env' a' w' h1 h2 h3 h4=>?_
     have hend:(match resultsA C fn st' with | some r=>retK C (lwm C f H.length) r st'.objs K | none=>False)→∃v,(results fn a'.tmps).run C.P w' = .ok v w'∧∃v0 env' r H',Ending.returned v = .returned v0∧K r H'∧Γ C.S env' w' r v0∧Inv C.S B env' w' H'∧Ext B (lwm C f H.length) env w env' w'∧lwm C f H.length≤H'.length:=by
      intro hk
      split at hk
      ·rename_i r hres
       obtain ⟨v,hv,hx⟩:= results_sound h2 hC.sig hres
       have hlo:lwm C f H.length≤st'.objs.length:=by have:=h2.lo;rw [h3] at this;exact this
       obtain ⟨env2,r2,H2,k1,k2,k3,k4,k5⟩:= retK_rel hC.sig hk hlo hx h2.inv
       exact ⟨v,hv,v,env2,r2,H2,rfl,k1,k2,k3,h4.trans k4,k5⟩
      ·exact hk.elim
     cases e with
     | exit id=>exact h1.elim
     | normal =>
      obtain ⟨v,hv,hR⟩:= hend h1
      exact ⟨h2.defers,v,hv,hR⟩
     | ret =>
      obtain ⟨v,hv,hR⟩:= hend h1
      exact ⟨h2.defers,v,hv,hR⟩
  ·simp only [evFun] at h
   split at h
   ·rename_i ps r H' hsum
    exact (hC.sum f args H ps r H' hsum).1
   split at h
   ·exact h.elim
   ·rename_i fn hF
    split at h
    ·exact h.elim
    ·rename_i c hbody
     have hfn:=hC.fn f fn hF
     exact ⟨fn,hfn.1,hfn.2,by rw [hbody];rfl⟩
end
end Go.Aw
