/-
  A reckoning in which the calls of one function are told by a law of its own (own work).
-/
import Derived.Test.YtlnbhdcaebmffaaGreatXAwU
set_option linter.unusedVariables false
namespace Go.Aw
open Go
def InlLe {El:TypeId→Type} (inl inl':Inl El): Prop:=∀f args H K,inl f args H K→inl' f args H K
section
variable {C:Cx} {inl inl':Inl C.S.El}
theorem evOne_inl (hl:InlLe inl inl') {o:Oper} {st:St C.S.El} {K:St C.S.El→Prop} (k:evOne C inl o st K): evOne C inl' o st K:=by
 unfold evOne at k ⊢
 split at k
 ·exact k
 ·split at k
  ·exact k
  split at k
  ·exact k
  split at k
  ·exact k
  ·split at k
   ·split at k
    ·split at k
     ·exact also_mono (hl _ _ _ _) k
     ·split at k
      ·exact also_mono (hl _ _ _ _) k
      ·exact k.elim
    ·exact k.elim
   ·exact k
   ·exact k
   ·exact k.elim
theorem evOps_inl (hl:InlLe inl inl') (hm:InlMono inl') {all:List Oper} {K:St C.S.El→Prop}: ∀(l:List Oper) (st:St C.S.El),evOps C inl all l st K→evOps C inl' all l st K
 | [],st,k=>k
 | o::rest,st,k=>by
  unfold evOps at k ⊢
  split at k
  ·exact evOne_mono hm (fun s k=>evOps_inl hl hm rest s k) (evOne_inl hl k)
  ·split at k
   ·exact k.elim
   ·split at k
    ·split at k
     ·exact also_mono (evOps_inl hl hm rest _) k
     ·exact k.elim
    ·rw [cond_both] at k ⊢
     refine ⟨fun hg=>evOne_mono hm (fun s k=>evOps_inl hl hm rest s k) (evOne_inl hl (k.1 hg)),fun hg=>?_⟩
     have k:=k.2 hg
     revert k
     split
     ·exact evOps_inl hl hm rest _
     ·exact id
theorem rounds_inl {f f':St C.S.El→(AExit→St C.S.El→Prop)→Prop} (hf : ∀s K,f s K→f' s K) (hm : ∀s K K',(∀e s,K e s→K' e s)→f' s K→f' s K') {K:AExit→St C.S.El→Prop}: ∀(n:Nat) (s:St C.S.El),rounds f n s K→rounds f' n s K
 | 0,_,k=>k.elim
 | n+1,s,k=>hm s _ _ (fun e s' k=>by
  cases e with
  | normal=>exact rounds_inl hf hm n s' k
  | _=>exact k) (hf s _ k)
theorem evAny_inl (hl:InlLe inl inl') (hm:InlMono inl') {all:List Oper} {K:St C.S.El→Prop}: ∀(f:Nat) (L:List Bool) (st:St C.S.El),evAny C inl all f L st K→evAny C inl' all f L st K
 | 0,L,st,k=>k
 | f+1,L,st,k=>by
  unfold evAny at k ⊢
  revert k
  split
  ·exact id
  ·refine evEach_mono (fun i=>?_) _ _
   split
   ·exact fun k=>evOps_mono hm (fun s k=>evAny_inl hl hm f _ s k) _ _ (evOps_inl hl hm _ _ k)
   ·exact id
theorem evCode_inl (hl:InlLe inl inl') (hm:InlMono inl'): ∀(c:Code) (st:St C.S.El) {K:AExit→St C.S.El→Prop},evCode C inl c st K→evCode C inl' c st K
 | .skip,st,K,k=>k
 | .region _ ops draw,st,K,k=>by
  unfold evCode at k ⊢
  cases draw with
  | false=>exact evOps_inl hl hm _ _ k
  | true =>
   dsimp only at k ⊢
   cases ha:anyB C ops.toList with
   | true=>rw [ha] at k;exact evAny_inl hl hm _ _ _ k
   | false =>
   rw [ha,cond_false] at k
   rw [cond_false]
   cases hb:(edgesOk ops.toList && (apartOk ops.toList (bitsBefore ops.toList) && tailOk ops.toList (bitsBefore ops.toList) (pickM C ops.toList))) with
   | false=>rw [hb] at k;exact k.elim
   | true =>
    rw [hb] at k
    exact evDs_mono (fun l s k=>evOps_inl hl hm _ _ k) _ _ _ _ _ _ k
 | .seq a b,st,K,k=>by
  unfold evCode at k ⊢
  refine evCode_mono hm a st (fun e s k=>?_) (evCode_inl hl hm a st k)
  cases e with
  | normal=>exact evCode_inl hl hm b s k
  | _=>exact k
 | .cond c x y,st,K,k=>by
  unfold evCode at k ⊢
  split at k
  ·rw [cond_both] at k ⊢
   exact ⟨fun hb=>evCode_inl hl hm x _ (k.1 hb),fun hb=>evCode_inl hl hm y _ (k.2 hb)⟩
  ·exact k.elim
 | .block id b,st,K,k=>by
  unfold evCode at k ⊢
  exact evCode_inl hl hm b st k
 | .loop b,st,K,k=>by
  unfold evCode at k ⊢
  cases hun:unr C b with
  | succ n =>
   rw [hun] at k
   exact rounds_inl (fun s K k=>evCode_inl hl hm b s k) (fun s K K' h k=>evCode_mono hm b s h k) _ _ k
  | zero =>
  rw [hun] at k
  simp only at k ⊢
  obtain ⟨I,n,s0,h1,h2,h3⟩:= k
  exact ⟨I,n,s0,h1,h2,fun n s hI=>evCode_inl hl hm b s (h3 n s hI)⟩
 | .exit _,st,K,k=>k
 | .ret,st,K,k=>k
 | .rangeFunc ..,st,K,k=>by unfold evCode at k;exact k.elim
 | .scope b,st,K,k=>by
  unfold evCode at k ⊢
  exact evCode_inl hl hm b st k
 | .label _,st,K,k=>k
 | .goto ..,st,K,k=>by unfold evCode at k;exact k.elim
 | .refuse ..,st,K,k=>by unfold evCode at k;exact k.elim
theorem evFun_up (C:Cx): ∀n,InlLe (evFun C n) (evFun C (n+1))
 | 0,f,args,H,K,k=>by unfold evFun at k;exact k.elim
 | n+1,f,args,H,K,k=>by
  unfold evFun at k ⊢
  split at k
  ·exact k
  split at k
  ·exact k.elim
  ·split at k
   ·exact k.elim
   ·exact evCode_inl (evFun_up C n) (evFun_mono C _) _ _ k
theorem evFun_ups (C:Cx) (m:Nat): ∀n,InlLe (evFun C m) (evFun C (n+m))
 | 0=>by rw [Nat.zero_add];exact fun _ _ _ _ k=>k
 | n+1=>fun f args H K k=>by
  rw [show n+1+m=n+m+1 by omega]
  exact evFun_up C _ f args H K (evFun_ups C m n f args H K k)
end
abbrev RL (El:TypeId→Type):= List (AV El)→List (AObj El)→(AV El→List (AObj El)→Prop)→Prop
def evFunT (C:Cx) (R:FuncId→Option (RL C.S.El)): Nat→Inl C.S.El
 | 0,_,_,_,_=>False
 | fuel+1,f,args,H,K=>match R f with
  | some L=>L args H K
  | none=>match C.I f args H with
   | some (ps,r,H')=> also ps (K r H')
   | none=>match C.F f with
   | none=>False
   | some fn=>match fn.body with
    | none=>False
    | some c=>evCode C (evFunT C R fuel) c {lo:=lwm C f H.length,slots:=enum 0 args,n:=bif Nat.ble args.length fn.ntmps then fn.ntmps else args.length,objs:=H} fun e st=>match e with
     | .exit _=>False
     | _=>match resultsA C fn st with
      | some r=>retK C (lwm C f H.length) r st.objs K
      | none=>False
theorem evFunT_le {C:Cx} {R:FuncId→Option (RL C.S.El)} (m:Nat) (hR : ∀f L,R f=some L→∀args H K,L args H K→evFun C m f args H K): ∀n,InlLe (evFunT C R n) (evFun C (n+m))
 | 0,f,args,H,K,k=>by unfold evFunT at k;exact k.elim
 | n+1,f,args,H,K,k=>by
  unfold evFunT at k
  split at k
  ·rename_i L hL
   exact evFun_ups C m (n+1) _ _ _ _ (hR _ _ hL _ _ _ k)
  ·rw [show n+1+m=n+m+1 by omega]
   unfold evFun
   revert k
   cases C.I f args H with
   | some x=>exact id
   | none =>
    dsimp only
    cases C.F f with
    | none=>exact id
    | some fn =>
     dsimp only
     cases fn.body with
     | none=>exact id
     | some c=>exact fun k=>evCode_inl (evFunT_le m hR n) (evFun_mono C _) _ _ k
def endL (C:Cx) (fn:Func) (lo:Nat) (K:AV C.S.El→List (AObj C.S.El)→Prop): AExit→St C.S.El→Prop:=fun e st=>match e with
 | .exit _=>False
 | _=>match resultsA C fn st with
  | some r=>retK C lo r st.objs K
  | none=>False
def loopL (C:Cx) (fuel:Nat) (f:FuncId) (p:List Bool) (lo:Nat) (Q:AV C.S.El→List (AObj C.S.El)→Prop): AExit→St C.S.El→Prop:=ctxK C (evFun C fuel) p (bodyC C.P f) (endL C (funcC C.P f) lo Q)
end Go.Aw
