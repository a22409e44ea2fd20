/-
  Typed readings of abstract values, piece by piece; contracts over typed arguments (own work).
-/
import Derived.Test.YtlnbhdcaebmffaaGreatXAwF
set_option linter.unusedVariables false
namespace Go.Aw
open Go
def Imp {S:Sig} (cs ds:List (AV S.El)): Prop:=∀env w vs,G2 S env w cs vs→G2 S env w ds vs
section
variable {El:TypeId→Type} {R:Type}
def popI (k:IntKind) (cs:List (AV El)) (f:Int→List (AV El)→Option R): Option R :=
 match cs with
 | .v (.int k' n):: l=>bif k'==k then f n l else none
 | _=>none
def popB (cs:List (AV El)) (f:Bool→List (AV El)→Option R): Option R :=
 match cs with
 | .v (.bool n):: l=>f n l
 | _=>none
def popS (t:TypeId) (cs:List (AV El)) (f:List (El t)→List (AV El)→Option R): Option R :=
 match cs with
 | .sl u xs _::l=>if h:u=t then f (h ▸ xs) l else none
 | .v (.slice none 0 0):: l=>f [] l
 | _=>none
def popA {X:Type} (dec:List (AV El)→Option X) (cs:List (AV El)) (f:X→List (AV El)→Option R): Option R :=
 match cs with
 | .agg c::l=>match dec c with
  | some x=>f x l
  | none=>none
 | _=>none
def popE (cs:List (AV El)) (x:R): Option R :=
 match cs with
 | []=> some x
 | _=>none
end
section
variable {S:Sig} {R:Type}
theorem popI_some {k:IntKind} {cs:List (AV S.El)} {f:Int→List (AV S.El)→Option R} {r:R} (h:popI k cs f=some r): ∃n l,cs = .v (.int k n):: l∧f n l=some r:=by
 unfold popI at h
 split at h
 ·obtain ⟨h1,h2⟩:= cond_some h
  have:=eq_of_beq h1
  subst this
  exact ⟨_,_,rfl,h2⟩
 ·cases h
theorem popB_some {cs:List (AV S.El)} {f:Bool→List (AV S.El)→Option R} {r:R} (h:popB cs f=some r): ∃n l,cs = .v (.bool n):: l∧f n l=some r:=by
 unfold popB at h
 split at h
 ·exact ⟨_,_,rfl,h⟩
 ·cases h
theorem Imp.refl (cs:List (AV S.El)): Imp cs cs:=fun _ _ _ h=>h
theorem Imp.cons {c:AV S.El} {cs ds:List (AV S.El)} (h:Imp cs ds): Imp (c::cs) (c::ds):= fun env w vs hg=>by
 obtain ⟨u,us,rfl,h1,h2⟩:= hg.uncons
 exact (h env w us h2).cons h1
theorem Imp.cons2 {c d:AV S.El} {cs ds:List (AV S.El)} (hc : ∀env w v,Γ S env w c v→Γ S env w d v) (h:Imp cs ds): Imp (c::cs) (d::ds):= fun env w vs hg=>by
 obtain ⟨u,us,rfl,h1,h2⟩:= hg.uncons
 exact (h env w us h2).cons (hc env w u h1)
theorem popS_some {t:TypeId} {cs:List (AV S.El)} {f:List (S.El t)→List (AV S.El)→Option R} {r:R} (h:popS t cs f=some r): ∃xs l,f xs l=some r∧∀ds,Imp l ds→Imp cs (.sl t xs false::ds):= by
 unfold popS at h
 split at h
 ·rename_i u xs g l
  split at h
  ·rename_i hu
   subst hu
   refine ⟨xs,l,h,fun ds hd => .cons2 (fun env w v hv=>?_) hd⟩
   cases hv with
   | sl _ _ _ b off cap val hf hc hw h=>exact .sl u xs false b off cap val (by simp) hc hw h
   | slnil=>exact .slnil u false
   | slemp _ _ a cap hf=>exact .slemp u false a cap (by simp)
  ·cases h
 ·rename_i l
  exact ⟨[],l,h,fun ds hd => .cons2 (fun env w v hv=>by cases hv.unv;exact .slnil t false) hd⟩
 ·cases h
theorem popA_some {X:Type} {dec:List (AV S.El)→Option X} {cells:X→List (AV S.El)} (hdec : ∀cs x,dec cs=some x→Imp cs (cells x)) {cs:List (AV S.El)} {f:X→List (AV S.El)→Option R} {r:R} (h:popA dec cs f=some r):
  ∃x l,f x l=some r∧∀ds,Imp l ds→Imp cs (.agg (cells x):: ds):= by
 unfold popA at h
 split at h
 ·rename_i c l
  split at h
  ·rename_i x hx
   refine ⟨x,l,h,fun ds hd => .cons2 (fun env w v hv=>?_) hd⟩
   obtain ⟨vs,rfl,hvs⟩:= hv.unagg
   exact G2.agg (hdec _ _ hx env w _ hvs)
  ·cases h
 ·cases h
theorem popE_some {cs:List (AV S.El)} {x r:R} (h:popE cs x=some r): cs=[]∧x=r:=by
 unfold popE at h
 split at h
 ·cases h;exact ⟨rfl,rfl⟩
 ·cases h
end
def ctOf {El:TypeId→Type} {X:Type} (dec:List (AV El)→Option X) (ps:X→List Prop) (res:X→AV El) (news:X→List (AObj El)): Ct El:=fun args=>(dec args).map fun x=>(ps x,res x,news x)
theorem ct_mk {C:Cx} (hC:CxOk C) {f:FuncId} {X:Type} {dec:List (AV C.S.El)→Option X} {enc:X→List (AV C.S.El)} (hdec : ∀cs x,dec cs=some x→Imp cs (enc x)) (hcl : ∀x,(enc x).all (lt1 0)= true) {ps:X→List Prop} {res:X→AV C.S.El} {news:X→List (AObj C.S.El)} (fuel:Nat)
  (h : ∀x,(∀p∈ps x,p)→evFun C fuel f (enc x) [] fun r' H'=>Gives r' H' (res x) (news x)): CtOk C f (ctOf dec ps res news):= by
 intro args p r ns hct hp _ B env w H vals hg hI
 simp only [ctOf,Option.map_eq_some_iff] at hct
 obtain ⟨x,hx,he⟩:= hct
 cases he
 exact ct_of_fun (ct:=fun a=>open Classical in if a=enc x then some (ps x,res x,news x) else none) hC fuel (fun a q r ns hct hq=>by
  split at hct
  ·rename_i ha
   cases hct
   subst ha
   exact h x hq
  ·cases hct) (enc x) (ps x) (res x) (news x) (by simp) hp (hcl x) B env w H vals (hdec _ _ hx env w vals hg) hI
theorem by_cond2 {R:Type} {b:Bool} {x y v:R} {X Y:Prop} (h1:b=true→v=x→X) (h2:b=false→v=y→Y): v=cond b x y→cond b X Y:=by
 intro hv
 cases b
 ·exact h2 rfl hv
 ·exact h1 rfl hv
def subC:List Bool→Code→Code
 | [],c=>c
 | false::p,c=>subC p (fstC c)
 | true::p,c=>subC p (sndC c)
def ctxK (C:Cx) (inl:Inl C.S.El): List Bool→Code→(AExit→St C.S.El→Prop)→AExit→St C.S.El→Prop
 | [],_,K=>K
 | false::p, .seq a b,K=>ctxK C inl p a (seqK C inl b K)
 | true::p, .seq _ b,K=>ctxK C inl p b K
 | _::p, .block id b,K=>ctxK C inl p b (blockK C id K)
 | false::p, .cond _ a _,K=>ctxK C inl p a K
 | true::p, .cond _ _ b,K=>ctxK C inl p b K
 | _::_,_,K=>K
def endK (C:Cx) (fn:Func) (K:AV C.S.El→List (AObj C.S.El)→Prop): AExit→St C.S.El→Prop:=fun e st=>match e with
 | .exit _=>False
 | _=>match resultsA C fn st with
  | some r=>retK C st.lo r st.objs K
  | none=>False
def bodyC (P:Program) (f:FuncId): Code:=match P.funcs[f]? with
 | some fn=>match fn.body with
  | some c=>c
  | none => .skip
 | none => .skip
def funcC (P:Program) (f:FuncId): Func:=(P.funcs[f]?).getD default
def loopB (P:Program) (f:FuncId) (p:List Bool): Code:=fstC (subC p (bodyC P f))
def loopK (C:Cx) (fuel:Nat) (f:FuncId) (p:List Bool) (Q:AV C.S.El→List (AObj C.S.El)→Prop): AExit→St C.S.El→Prop:=ctxK C (evFun C fuel) p (bodyC C.P f) (endK C (funcC C.P f) Q)
theorem loop_ev {C:Cx} {inl:Inl C.S.El} {b:Code} (hu:unr C b=0) (hi:InlMono inl) {X:Type} {st:St C.S.El} {K:AExit→St C.S.El→Prop} (keep:List Nat) (ups:List Up) (enc:X→St C.S.El) (μ:X→Nat) (Q:X→Prop) (x0:X) (h0:okH keep ups st=true∧headS keep ups st=enc x0) (hQ:Q x0)
  (h : ∀x,Q x→evCode C inl b (enc x) (roundK keep ups (fun s' => ∃x',s'=enc x'∧μ x' < μ x∧Q x') K)): evCode C inl (.loop b) st K:=by
 refine ev_loop2 hu hi keep ups (fun n s => ∃x,s=enc x∧μ x=n∧Q x) (μ x0) ⟨h0.1,x0,h0.2,rfl,hQ⟩ ?_
 rintro n _ ⟨x,rfl,rfl,hx⟩
 refine evCode_mono hi b _ (fun e s' k=>?_) (h x hx)
 cases e with
 | normal =>
  simp only [roundK] at k ⊢
  cases hk:okH keep ups s' with
  | false=>rw [hk] at k;exact k.elim
  | true =>
   rw [hk] at k
   obtain ⟨x',k2,k3,k4⟩:= k
   exact ⟨μ x',k3,x',k2,rfl,k4⟩
 | _=>exact k
theorem cond_and (a b:Bool): (cond a b false)= (a && b):= by cases a <;> rfl
theorem cond_or (a b:Bool): (cond a true b)= (a || b):= by cases a <;> rfl
theorem wi64 (n:Int) (h0 : -9223372036854775808≤n) (h1:n < 9223372036854775808): IntKind.wrap IntKind.i64 n=n:=by
 simp [IntKind.wrap,IntKind.bits,IntKind.signed];omega
theorem wi64s (n:Int): (-9223372036854775808≤n→n < 9223372036854775808→IntKind.wrap IntKind.i64 n=n)∧ -9223372036854775808≤IntKind.wrap IntKind.i64 n∧IntKind.wrap IntKind.i64 n≤9223372036854775807:=by
 refine ⟨wi64 n, ?_⟩
 simp [IntKind.wrap,IntKind.bits,IntKind.signed];omega
theorem wu64 (n:Int) (h0:0≤n) (h1:n < 18446744073709551616): IntKind.wrap IntKind.u64 n=n:=by
 simp [IntKind.wrap,IntKind.bits,IntKind.signed];omega
theorem wu64m (n:Int): IntKind.wrap IntKind.u64 n=n % 18446744073709551616:=by
 simp [IntKind.wrap,IntKind.bits,IntKind.signed]
theorem wu16m (n:Int): IntKind.wrap IntKind.u16 n=n % 65536:=by
 simp [IntKind.wrap,IntKind.bits,IntKind.signed]
theorem wu64s (n:Int): (0≤n→n < 18446744073709551616→IntKind.wrap IntKind.u64 n=n)∧0≤IntKind.wrap IntKind.u64 n∧IntKind.wrap IntKind.u64 n≤18446744073709551615:=by
 rw [wu64m];omega
theorem minI_eq (a b:Int): minI a b=min a b:=by unfold minI;split <;> omega
theorem maxI_eq (a b:Int): maxI a b=max a b:=by unfold maxI;split <;> omega
def autoF (P:Program) (n:FuncId): Option Func :=
 match P.funcs[n]? with
 | some fn => bif fn.name == "runtime.NumGoroutine" then none else some fn
 | none=>none
def lookT {El:TypeId→Type}: List (FuncId×Ct El)→FuncId→Option (Ct El)
 | [],_=>none
 | (k,c):: l,n=>bif Nat.beq k n then some c else lookT l n
def mkCx (P:Program) (S:Sig) (tab:List (FuncId×Ct S.El)) (u:Nat): Cx:={P:=P,S:=S,T:=lookT tab,F:=autoF P,unroll:=u}
def plainB (P:Program) (f:FuncId): Bool :=
 match P.funcs[f]? with
 | some fn => !(fn.name == "runtime.NumGoroutine") && fn.body.isSome
 | none=>false
def TabOk (P:Program) (S:Sig): List (FuncId×Ct S.El)→Prop
 | []=> True
 | (k,c):: l=>CtOk (mkCx P S [] 0) k c∧plainB P k=true∧TabOk P S l
theorem plainB_ok {P:Program} {f:FuncId} (h:plainB P f=true): Plain P f:=by
 unfold plainB at h
 split at h
 ·rename_i fn hf
  simp only [Bool.and_eq_true,Bool.not_eq_true'] at h
  exact ⟨fn,hf,h.1,by cases hb:fn.body <;> simp_all⟩
 ·cases h
theorem tab_ct {P:Program} {S:Sig}: ∀{tab:List (FuncId×Ct S.El)} {f:FuncId} {ct:Ct S.El},TabOk P S tab→lookT tab f=some ct→CtOk (mkCx P S [] 0) f ct∧Plain P f
 | [],f,ct,_,h=>by cases h
 | (k,c):: l,f,ct,ht,h=>by
  unfold lookT at h
  cases hk:Nat.beq k f
  ·rw [hk,cond_false] at h;exact tab_ct ht.2.2 h
  ·rw [hk,cond_true] at h
   cases h
   have:=Nat.eq_of_beq_eq_true hk
   subst this
   exact ⟨ht.1,plainB_ok ht.2.1⟩
theorem mkCx_ok {P:Program} {S:Sig} (hS:SigOk S) (hm:P.follows .mixedOrders=true) {tab:List (FuncId×Ct S.El)} (ht:TabOk P S tab) (u:Nat): CxOk (mkCx P S tab u):=
 ⟨hS,fun f ct h=>(tab_ct ht h).1,fun f ct h=>(tab_ct ht h).2,(fun f fn h=>by
  simp only [mkCx,autoF] at h
  split at h
  ·rename_i g hg
   cases hn : (g.name == "runtime.NumGoroutine")
   ·rw [hn,cond_false] at h;cases h;exact ⟨hg,hn⟩
   ·rw [hn,cond_true] at h;cases h
  ·cases h),hm,(fun _ _ _ _ _ _ h=>by cases h),fun _ _ h=>by cases h⟩
end Go.Aw
