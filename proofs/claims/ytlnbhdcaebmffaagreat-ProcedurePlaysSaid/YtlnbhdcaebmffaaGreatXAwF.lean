/-
  The reckoner's own law that what is owed at the end may be less; loops by what is kept at their heads.
-/
import Derived.Test.YtlnbhdcaebmffaaGreatXAwE
set_option linter.unusedVariables false
namespace Go.Aw
open Go
def InlMono {El:TypeId→Type} (inl:Inl El): Prop:=∀f args H (K K':AV El→List (AObj El)→Prop),(∀r H,K r H→K' r H)→inl f args H K→inl f args H K'
theorem also_mono {q q':Prop} (h:q→q'): ∀{ps:List Prop},also ps q→also ps q'
 | [],k=>h k
 | _::_,k=>⟨k.1,also_mono h k.2⟩
section
variable {C:Cx} {inl:Inl C.S.El}
theorem lkMap_mono {El:TypeId→Type} {n:Int} {P Q:Option (AV El)→Prop} (h : ∀r,P r→Q r): ∀(ks:List Int) (vs:List (AV El)),lkMap n ks vs P→lkMap n ks vs Q
 | [],vs,k=>by cases vs <;> exact h _ k
 | _::_,[],k=>h _ k
 | a::ks,v::vs,k=>by
  unfold lkMap at k ⊢
  revert k
  cases (n==a)
  ·exact lkMap_mono h ks vs
  ·exact h _
theorem evOne_mono (hi:InlMono inl) {o:Oper} {st:St C.S.El} {K K':St C.S.El→Prop} (h : ∀s,K s→K' s) (k:evOne C inl o st K): evOne C inl o st K':=by
 unfold evOne at k ⊢
 split at k
 ·refine splK_mono (fun x k=>?_) k
  revert k
  split
  ·exact also_mono (fun k=>by
    revert k
    cases asmP C o (rhoOf C st o) st.objs with
    | none=>exact h _
    | some p=>exact fun k hp=>h _ (k hp))
  ·exact id
 ·split at k
  ·split at k
   ·exact also_mono (h _) k
   ·exact k.elim
  split at k
  ·split at k
   ·exact also_mono (h _) k
   ·exact k.elim
  split at k
  ·split at k
   ·exact also_mono (h _) k
   ·exact k.elim
  ·split at k
   ·split at k
    ·split at k
     ·refine also_mono (fun k=>hi _ _ _ _ _ (fun r H k=>?_) k) k
      revert k
      split
      ·exact h _
      ·exact id
     ·split at k
      ·refine also_mono (fun k=>hi _ _ _ _ _ (fun r H k=>?_) k) k
       revert k
       split
       ·exact h _
       ·exact id
      ·exact k.elim
    ·exact k.elim
   ·split at k
    ·refine also_mono (lkMap_mono (fun r k=>?_) _ _) k
     revert k
     split
     ·split
      ·exact h _
      ·exact id
     ·exact id
    ·exact k.elim
   ·split at k
    ·refine also_mono (fun k z hz=>?_) k
     have k:=k z hz
     revert k
     split
     ·exact h _
     ·exact id
    ·exact k.elim
   ·exact k.elim
theorem evOps_mono (hi:InlMono inl) {all:List Oper} {K K':St C.S.El→Prop} (h : ∀s,K s→K' s): ∀(l:List Oper) (st:St C.S.El),evOps C inl all l st K→evOps C inl all l st K'
 | [],st,k=>h _ k
 | o::rest,st,k=>by
  unfold evOps at k ⊢
  split at k
  ·exact evOne_mono hi (fun s k=>evOps_mono hi h rest s k) k
  ·split at k
   ·exact k.elim
   ·split at k
    ·split at k
     ·exact also_mono (evOps_mono hi h rest _) k
     ·exact k.elim
    ·rw [cond_both] at k ⊢
     refine ⟨fun hg=>evOne_mono hi (fun s k=>evOps_mono hi h rest s k) (k.1 hg),fun hg=>?_⟩
     have k:=k.2 hg
     revert k
     split
     ·exact evOps_mono hi h rest _
     ·exact id
theorem evDs_mono {Tg:List Nat} {all:List Oper} {Lt:List Nat} {K K':List Oper→St C.S.El→Prop} (h : ∀l s,K l s→K' l s): ∀(i m:Nat) (l:List Oper) (st:St C.S.El) (N:List (AObj C.S.El)) (D:List Nat),evDs C Tg all Lt i m l st N D K→evDs C Tg all Lt i m l st N D K'
 | _,0,l,st,N,D,k=>h _ _ k
 | _,_+1,[],st,N,D,k=>h _ _ k
 | i,m+1,o::rest,st,N,D,k=>by
  unfold evDs at k ⊢
  split at k
  ·split at k
   ·split at k
    ·exact also_mono (evDs_mono h (i+1) m rest _ _ _) k
    ·exact k.elim
   ·split at k
    ·split at k
     ·exact also_mono (evDs_mono h (i+1) m rest _ _ _) k
     ·exact k.elim
    ·split at k
     ·split at k
      ·exact also_mono (evDs_mono h (i+1) m rest _ _ _) k
      ·exact k.elim
     ·split at k
      ·split at k
       ·exact also_mono (evDs_mono h (i+1) m rest _ _ _) k
       ·exact k.elim
      ·cases hn:noNew C (seen Tg all Lt i o (rhoOf C st o) st.objs).length o (rhoOf C st o) <;> rw [hn] at k
       ·exact k.elim
       ·rw [cond_true] at k ⊢
        split at k
        ·split at k
         ·exact also_mono (evDs_mono h (i+1) m rest _ _ _) k
         ·exact k.elim
        ·split at k
         ·split at k
          ·refine also_mono (lkMap_mono (fun r k=>?_) _ _) k
           revert k
           split
           ·split
            ·exact evDs_mono h (i+1) m rest _ _ _
            ·exact id
           ·exact id
          ·exact k.elim
         ·exact k.elim
  ·split at k
   ·exact k.elim
   ·cases hn:noNew C (seen Tg all Lt i o (rhoOf C st o) st.objs).length o (rhoOf C st o) <;> rw [hn] at k
    ·exact k.elim
    ·rw [cond_true] at k ⊢
     split at k
     ·split at k
      ·exact also_mono (evDs_mono h (i+1) m rest _ _ _) k
      ·exact k.elim
     ·exact k.elim
theorem rounds_mono {f:St C.S.El→(AExit→St C.S.El→Prop)→Prop} (hf : ∀s K K',(∀e s,K e s→K' e s)→f s K→f s K') {K K':AExit→St C.S.El→Prop} (h : ∀e s,K e s→K' e s): ∀(n:Nat) (s:St C.S.El),rounds f n s K→rounds f n s K'
 | 0,_,k=>k.elim
 | n+1,s,k=>hf s _ _ (fun e s' k=>by
  cases e with
  | normal=>exact rounds_mono hf h n s' k
  | _=>exact h _ _ k) k
theorem evEach_mono {P P':Nat→Prop} (h : ∀i,P i→P' i): ∀(l:List Nat) (i:Nat),evEach P i l→evEach P' i l
 | [],i,k=>h i k
 | j::l,i,k=>⟨h i k.1,evEach_mono h l j k.2⟩
theorem evAny_mono (hi:InlMono inl) {all:List Oper} {K K':St C.S.El→Prop} (h : ∀s,K s→K' s): ∀(f:Nat) (L:List Bool) (st:St C.S.El),evAny C inl all f L st K→evAny C inl all f L st K'
 | 0,L,st,k=>by
  unfold evAny at k ⊢
  revert k
  split
  ·exact h _
  ·exact id
 | f+1,L,st,k=>by
  unfold evAny at k ⊢
  revert k
  split
  ·exact h _
  ·refine evEach_mono (fun i=>?_) _ _
   split
   ·exact fun k=>evOps_mono hi (fun s k=>evAny_mono hi h f _ s k) _ _ k
   ·exact id
theorem evCode_mono (hi:InlMono inl): ∀(c:Code) (st:St C.S.El) {K K':AExit→St C.S.El→Prop},(∀e s,K e s→K' e s)→evCode C inl c st K→evCode C inl c st K'
 | .skip,st,K,K',h,k=>h _ _ k
 | .region _ ops draw,st,K,K',h,k=>by
  unfold evCode at k ⊢
  cases draw with
  | false=>exact evOps_mono hi (fun s=>h _ s) _ _ k
  | true =>
   dsimp only at k ⊢
   cases ha:anyB C ops.toList with
   | true=>rw [ha] at k;exact evAny_mono hi (fun s=>h _ s) _ _ _ k
   | false =>
   rw [ha,cond_false] at k
   rw [cond_false]
   cases hb:(edgesOk ops.toList && (apartOk ops.toList (bitsBefore ops.toList) && tailOk ops.toList (bitsBefore ops.toList) (pickM C ops.toList))) with
   | false=>rw [hb] at k;exact k.elim
   | true =>
    rw [hb] at k
    exact evDs_mono (fun l s k=>evOps_mono hi (fun s=>h _ s) _ _ k) _ _ _ _ _ _ k
 | .seq a b,st,K,K',h,k=>by
  unfold evCode at k ⊢
  refine evCode_mono hi a st (fun e s k=>?_) k
  cases e with
  | normal=>exact evCode_mono hi b s h k
  | _=>exact h _ _ k
 | .cond c x y,st,K,K',h,k=>by
  unfold evCode at k ⊢
  split at k
  ·rw [cond_both] at k ⊢
   exact ⟨fun hb=>evCode_mono hi x _ h (k.1 hb),fun hb=>evCode_mono hi y _ h (k.2 hb)⟩
  ·exact k.elim
 | .block id b,st,K,K',h,k=>by
  unfold evCode at k ⊢
  refine evCode_mono hi b st (fun e s k=>?_) k
  cases e with
  | exit i =>
   dsimp only at k ⊢
   cases hb:Nat.beq i id with
   | true=>rw [hb] at k;exact h _ _ k
   | false=>rw [hb] at k;exact h _ _ k
  | _=>exact h _ _ k
 | .loop b,st,K,K',h,k=>by
  unfold evCode at k ⊢
  cases hun:unr C b with
  | succ n =>
   rw [hun] at k
   exact rounds_mono (fun s K K' h k=>evCode_mono hi b s h k) h _ _ k
  | zero =>
  rw [hun] at k
  simp only at k ⊢
  obtain ⟨I,n,s0,h1,h2,h3⟩:= k
  refine ⟨I,n,s0,h1,h2,fun n s hI=>evCode_mono hi b s (fun e s k=>?_) (h3 n s hI)⟩
  cases e with
  | normal=>exact k
  | _=>exact h _ _ k
 | .exit id,st,K,K',h,k=>h _ _ k
 | .ret,st,K,K',h,k=>h _ _ k
 | .rangeFunc ..,st,K,K',h,k=>by unfold evCode at k;exact k.elim
 | .scope b,st,K,K',h,k=>by
  unfold evCode at k ⊢
  exact evCode_mono hi b st h k
 | .label _,st,K,K',h,k=>h _ _ k
 | .goto ..,st,K,K',h,k=>by unfold evCode at k;exact k.elim
 | .refuse ..,st,K,K',h,k=>by unfold evCode at k;exact k.elim
end
def roundK {C:Cx} (keep:List Nat) (ups:List Up) (J:St C.S.El→Prop) (K:AExit→St C.S.El→Prop): AExit→St C.S.El→Prop:=fun e s'=>match e with
 | .normal=>cond (okH keep ups s') (J (headS keep ups s')) False
 | e=>K e s'
theorem ev_loop2 {C:Cx} {inl:Inl C.S.El} {b:Code} (hu:unr C b=0) (hi:InlMono inl) {st:St C.S.El} {K:AExit→St C.S.El→Prop} (keep:List Nat) (ups:List Up) (I:Nat→St C.S.El→Prop) (n:Nat) (h1:okH keep ups st=true∧I n (headS keep ups st))
  (h3 : ∀n s,I n s→evCode C inl b s (roundK keep ups (fun s' => ∃m,m < n∧I m s') K)): evCode C inl (.loop b) st K:=by
 refine ev_loop hu I n _ h1.2 (headS_ge keep ups st h1.1) fun n s h=>evCode_mono hi b s (fun e s' k=>?_) (h3 n s h)
 cases e with
 | normal =>
  simp only [roundK] at k
  cases hk:okH keep ups s' with
  | false=>rw [hk] at k;exact k.elim
  | true =>
   rw [hk] at k
   obtain ⟨m,h1,h2⟩:= k
   exact ⟨m,_,h1,h2,headS_ge keep ups s' hk⟩
 | _=>exact k
theorem retK_mono {C:Cx} {lo:Nat} {r:AV C.S.El} {H:List (AObj C.S.El)} {K K':AV C.S.El→List (AObj C.S.El)→Prop} (h : ∀r H,K r H→K' r H) (k:retK C lo r H K): retK C lo r H K':=by
 unfold retK at k ⊢
 split at k
 ·exact h _ _ k
 ·exact h _ _ k
theorem evFun_mono (C:Cx): ∀fuel,InlMono (evFun C fuel)
 | 0,f,args,H,K,K',h,k=>by unfold evFun at k;exact k.elim
 | n+1,f,args,H,K,K',h,k=>by
  unfold evFun at k ⊢
  split at k
  ·exact also_mono (h _ _) k
  split at k
  ·exact k.elim
  ·split at k
   ·exact k.elim
   ·refine evCode_mono (evFun_mono C n) _ _ (fun e s k=>?_) k
    cases e with
    | exit i=>exact k
    | normal=>revert k;dsimp only;split;exact retK_mono h;exact id
    | ret=>revert k;dsimp only;split;exact retK_mono h;exact id
def o2 (g:Bool): Prop:=g=true→g=true
def o3 (g:Bool): Prop:=g=true→g=true→g=true
def on (g:Bool): Prop:=g=false→(!g)= true
theorem o2_ok (g:Bool): o2 g:=id
theorem o3_ok (g:Bool): o3 g:=fun _ h=>h
theorem on_ok (g:Bool): on g:=fun h=>by rw [h];rfl
end Go.Aw
