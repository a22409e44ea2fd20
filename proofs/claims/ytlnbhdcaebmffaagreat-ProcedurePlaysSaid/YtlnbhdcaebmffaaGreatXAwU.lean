/-
  Summaries of inlined calls: for arguments and own things of a given form (own work).
-/
import Derived.Test.YtlnbhdcaebmffaaGreatXAwK
set_option linter.unusedVariables false
namespace Go.Aw
open Go
section
variable {S:Sig} {B:Nat} {env:Env} {w:World}
def OImp (o o':AObj S.El): Prop:=o=o'∨∃cs ds,o = .cells cs∧o' = .cells ds∧Imp (S:=S) cs ds
def HImp:List (AObj S.El)→List (AObj S.El)→Prop
 | [],[]=> True
 | o::l,o'::l'=>OImp o o'∧HImp l l'
 | _,_=>False
theorem HImp.len : ∀{H H':List (AObj S.El)},HImp H H'→H.length=H'.length
 | [],[],_=>rfl
 | _::_,_::_,h=>by simp [HImp.len h.2]
theorem HImp.obj : ∀{H H':List (AObj S.El)},HImp H H'→∀i,OImp (Go.Aw.obj H i) (Go.Aw.obj H' i)
 | [],[],_,i => .inl rfl
 | _::_,_::_,h,0=>h.1
 | _::_,_::_,h,i+1=>HImp.obj h.2 i
theorem OImp.live {o o':AObj S.El} (h:OImp o o'): live o=live o':=by
 rcases h with rfl | ⟨cs,ds,rfl,rfl,_⟩ <;> rfl
theorem HImp.inv {H H':List (AObj S.El)} (h:HImp H H') (hI:Inv S B env w H): Inv S B env w H':=by
 refine ⟨fun i=>?_,fun i v b hl=>hI.free i v b ((h.obj i).live.trans hl),fun i j u v b h1 h2=>hI.apart i j u v b ((h.obj i).live.trans h1) ((h.obj j).live.trans h2),hI.inheap,fun i v hv=>by rw [←h.len];exact hI.fresh i v hv,hI.glob,hI.base⟩
 have ho:=hI.objs i
 rcases h.obj i with e | ⟨cs,ds,e1,e2,hi⟩
 ·rw [←e];exact ho
 ·rw [e1] at ho
  rw [e2]
  obtain ⟨b,vs,T,q1,q2,q3,q4⟩:= ho
  exact ⟨b,vs,T,q1,q2,q3,hi env w _ q4⟩
theorem HImp.refl : ∀H:List (AObj S.El),HImp H H
 | []=> trivial
 | _::l=>⟨.inl rfl,HImp.refl l⟩
end
section
variable {El:TypeId→Type} {R:Type}
def refsB:List (AV El)→List (Nat×Nat)→Bool
 | [],[]=> true
 | .ref i o::l,(j,p):: m=>Nat.beq i j && Nat.beq o p && refsB l m
 | _,_=>false
def refsOf (m:List (Nat×Nat)): List (AV El):= m.map fun p => .ref p.1 p.2
def popK (g:FuncId) (refs:List (Nat×Nat)) (cs:List (AV El)) (f:List (AV El)→Option R): Option R :=
 match cs with
 | .clo g' caps::l=>bif Nat.beq g' g && refsB caps refs then f l else none
 | _=>none
theorem refsB_eq : ∀{cs:List (AV El)} {m:List (Nat×Nat)},refsB cs m=true→cs=refsOf m
 | [],[],_=>rfl
 | .ref i o::l,(j,p):: m,h=>by
  simp only [refsB,Bool.and_eq_true] at h
  have h1:=Nat.eq_of_beq_eq_true h.1.1
  have h2:=Nat.eq_of_beq_eq_true h.1.2
  subst h1;subst h2
  simp [refsOf,refsB_eq h.2]
theorem popK_some {g:FuncId} {refs:List (Nat×Nat)} {cs:List (AV El)} {f:List (AV El)→Option R} {r:R} (h:popK g refs cs f=some r): ∃l,cs = .clo g (refsOf refs):: l∧f l=some r:=by
 unfold popK at h
 split at h
 ·obtain ⟨h1,h2⟩:= cond_some h
  simp only [Bool.and_eq_true] at h1
  have:=Nat.eq_of_beq_eq_true h1.1
  subst this
  exact ⟨_,by rw [refsB_eq h1.2],h2⟩
 ·cases h
end
section
variable {S:Sig} {R:Type}
end
abbrev SumI (El:TypeId→Type):= FuncId→List (AV El)→List (AObj El)→Option (List Prop×AV El×List (AObj El))
def sum0 {El:TypeId→Type}: SumI El:=fun _ _ _=>none
def SumTab (P:Program) (S:Sig) (I:SumI S.El): Prop:=∀f args H ps r H',I f args H=some (ps,r,H')→SumOk P S f args H ps r H'
theorem sum0_ok (P:Program) (S:Sig): SumTab P S sum0:=fun _ _ _ _ _ _ h=>by cases h
def forget {El:TypeId→Type} (H:List (AObj El)) (gs:List Nat): List (AObj El):= gs.foldl (fun H i=>setN H i .gone) H
section
variable {C:Cx}
end
def mkCxL (P:Program) (S:Sig) (tab:List (FuncId×Ct S.El)) (u:Nat) (win tl:Bool) (I:SumI S.El): Cx:={P:=P,S:=S,T:=lookT tab,F:=autoF P,unroll:=u,win:=win,tl:=tl,tr:=tl,I:=I}
theorem mkCxL_ok {P:Program} {S:Sig} (hS:SigOk S) (hm:P.follows .mixedOrders=true) {tab:List (FuncId×Ct S.El)} (ht:TabOk P S tab) (u:Nat) (win tl:Bool) {I:SumI S.El} (hI:SumTab P S I): CxOk (mkCxL P S tab u win tl I):=
 have h:=mkCx_ok hS hm ht u
 ⟨h.sig,h.ct,h.plainT,h.fn,h.mixed,hI,fun _ _ h=>by cases h⟩
def mkCxF (P:Program) (S:Sig) (tab:List (FuncId×Ct S.El)): Cx:={P:=P,S:=S,T:=lookT tab,F:=autoF P,unroll:=0,fz:=true}
theorem mkCxF_ok {P:Program} {S:Sig} (hS:SigOk S) (hm:P.follows .mixedOrders=true) {tab:List (FuncId×Ct S.El)} (ht:TabOk P S tab): CxOk (mkCxF P S tab):=
 have h:=mkCx_ok hS hm ht 0
 ⟨h.sig,h.ct,h.plainT,h.fn,h.mixed,h.sum,fun _ _ h=>by cases h⟩
def polyQ (g:FuncId) (q:IntKind×List Int×List FuncId) (f:FuncId): Option (IntKind×List Int×List FuncId):= bif Nat.beq f g then some q else none
def PolyOk (P:Program) (S:Sig) (g:FuncId) (q:IntKind×List Int×List FuncId): Prop :=
 ∃ct:Ct S.El,CtOk (mkCx P S [] 0) g ct∧plainB P g=true∧∀ad:Addr,ct [.v (.pointer (some ad))]= some ([],mapClo q (.v (.pointer (some ad))),[])
def mkCxQ (P:Program) (S:Sig) (tab:List (FuncId×Ct S.El)) (u:Nat) (win tl:Bool) (I:SumI S.El) (g:FuncId) (q:IntKind×List Int×List FuncId): Cx:={P:=P,S:=S,T:=lookT tab,F:=autoF P,unroll:=u,win:=win,tl:=tl,tr:=tl,I:=I,Q:=polyQ g q}
theorem mkCxQ_ok {P:Program} {S:Sig} (hS:SigOk S) (hm:P.follows .mixedOrders=true) {tab:List (FuncId×Ct S.El)} (ht:TabOk P S tab) (u:Nat) (win tl:Bool) {I:SumI S.El} (hI:SumTab P S I) {g:FuncId} {q:IntKind×List Int×List FuncId} (hq:PolyOk P S g q): CxOk (mkCxQ P S tab u win tl I g q):=
 have h:=mkCx_ok hS hm ht u
 ⟨h.sig,h.ct,h.plainT,h.fn,h.mixed,hI,fun f q' hf=>by
  simp only [mkCxQ,polyQ] at hf
  cases hb:Nat.beq f g
  ·rw [hb] at hf;cases hf
  ·rw [hb] at hf
   cases hf
   have:=Nat.eq_of_beq_eq_true hb
   subst this
   obtain ⟨ct,h1,h2,h3⟩:= hq
   exact ⟨ct,h1,plainB_ok h2,h3⟩⟩
def anL:List FuncId→FuncId→Bool
 | [],_=>false
 | g::l,f=>Nat.beq f g || anL l f
def mkCxN (P:Program) (S:Sig) (tab:List (FuncId×Ct S.El)) (u:Nat) (l:List FuncId): Cx:={P:=P,S:=S,T:=lookT tab,F:=autoF P,unroll:=u,win:=true,tl:=true,tr:=true,an:=anL l,sp:=true}
theorem mkCxN_ok {P:Program} {S:Sig} (hS:SigOk S) (hm:P.follows .mixedOrders=true) {tab:List (FuncId×Ct S.El)} (ht:TabOk P S tab) (u:Nat) (l:List FuncId): CxOk (mkCxN P S tab u l):=
 have h:=mkCx_ok hS hm ht u
 ⟨h.sig,h.ct,h.plainT,h.fn,h.mixed,h.sum,fun _ _ h=>by cases h⟩
def mkCxY (P:Program) (S:Sig) (tab:List (FuncId×Ct S.El)) (u:Nat): Cx:={P:=P,S:=S,T:=lookT tab,F:=autoF P,unroll:=u,win:=true,tl:=true,tr:=true,ay:=true}
theorem mkCxY_ok {P:Program} {S:Sig} (hS:SigOk S) (hm:P.follows .mixedOrders=true) {tab:List (FuncId×Ct S.El)} (ht:TabOk P S tab) (u:Nat): CxOk (mkCxY P S tab u):=
 have h:=mkCx_ok hS hm ht u
 ⟨h.sig,h.ct,h.plainT,h.fn,h.mixed,h.sum,fun _ _ h=>by cases h⟩
end Go.Aw
