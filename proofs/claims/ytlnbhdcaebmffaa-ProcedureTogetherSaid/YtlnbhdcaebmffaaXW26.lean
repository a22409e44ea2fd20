/- Contracts of the seat (printed by ct.py). -/
import Derived.Test.YtlnbhdcaebmffaaXW25
import Derived.Test.YtlnbhdcaebmffaaXW12
set_option linter.unusedVariables false
set_option linter.unusedSimpArgs false
set_option maxRecDepth 20000
set_option maxHeartbeats 1000000
namespace Go.Aw.W
open Go Go.Aw Go.Proofs
attribute [local irreducible] evCode evFun evOps evDs evOne ctxK loopK loopB subC bodyC headS okH roundK
attribute [local irreducible] cCheck procStart procHandle procReady procDue loopL
theorem ct_mkT {C:Cx} (hC:CxOk C) {R:FuncId→Option (RL C.S.El)} (hR : ∀f L,R f=some L→LawOk C f L) {f:FuncId} {X:Type} {dec:List (AV C.S.El)→Option X} {enc:X→List (AV C.S.El)} (hdec : ∀cs x,dec cs=some x→Imp cs (enc x)) (hcl : ∀x,(enc x).all (lt1 0)= true) {ps:X→List Prop} {res:X→AV C.S.El} {news:X→List (AObj C.S.El)} (fuel:Nat)
  (h : ∀x,(∀p∈ps x,p)→evFunT C R fuel f (enc x) [] fun r' H'=>Gives r' H' (res x) (news x)): CtOk C f (ctOf dec ps res news):= by
 intro args p r ns hct hp _ B env w H vals hg hI
 simp only [ctOf,Option.map_eq_some_iff] at hct
 obtain ⟨x,hx,he⟩:= hct
 cases he
 exact ct_of_inl (ct:=fun a=>open Classical in if a=enc x then some (ps x,res x,news x) else none) hC (evFunT_sound hC hR fuel).1 (fun a q r ns hct hq=>by
  split at hct
  ·rename_i ha
   cases hct
   subst ha
   exact h x hq
  ·cases hct) (enc x) (ps x) (res x) (news x) (by simp) hp (hcl x) B env w H vals (hdec _ _ hx env w vals hg) hI
theorem frz_all {C:Cx} (hS:SigOk C.S) {B:Nat} {env:Env} {w:World} {H:List (AObj C.S.El)} (hI:Inv C.S B env w H) {i:Nat} {v:Value} (hv:Γ C.S env w (.ref i 0) v) {cs:List (AV C.S.El)} (l:List Nat) (hl : ∀c∈cs,∀j∈owns c,j∈l) (hil:obj (freezeAll H l) i = .cells cs)
  (t:TypeId) (x:C.S.El t) (hd:C.S.dec t (cs.map (deref (freezeAll H l)))= some x): ∃env',Γ C.S env' w (.rp t x 0) v∧Inv C.S B env' w []∧Ext B 0 env w env' w:=by
 obtain ⟨e1,v1,I1,E1,l1,f1⟩:= freezeAll_sound hS l env H hI
 obtain ⟨b,vs,T,q1,q2,q3,q4⟩: ObjOk C.S e1 w B (e1.val i) (.cells cs):= hil ▸ I1.objs i
 have hg:G2 C.S e1 w (cs.map (deref (freezeAll H l))) vs.toList:=G2.map_av cs _ q4 (fun c hc u hu=>deref_sound I1 hu (fun j hj t xs=>f1 j (hl c hc j hj) t xs))
 have hg2:=hS.dec t _ x hd e1 w vs.toList hg
 have hlen:=hS.len t x
 have hi:i < (freezeAll H l).length:=I1.fresh i _ q1
 have hlive:live (obj (freezeAll H l) i)= true:=by rw [hil];rfl
 have hbs:b < w.heap.size:=by
  rcases Nat.lt_or_ge b w.heap.size with q | q
  ·exact q
  ·rw [Array.getElem?_eq_none q] at q3;cases q3
 obtain ⟨I2,E2⟩:= (I1.forget i).prot1 b q2 hbs (fun j u r1 r2 r3=>by
  rw [obj_set _ i j _ hi] at r1
  by_cases hij:i=j
  ·rw [if_pos hij] at r1;cases r1
  ·rw [if_neg hij] at r1
   exact hij (I1.apart i j _ u b hlive r1 q1 r2 rfl r3))
 have hr:Γ C.S ⟨e1.val,fun b' o=>e1.prot b' o∨b'=b⟩ w (.rp t x 0) v:=by
  cases hv with
  | ref _ _ b' hv =>
   rw [←v1,q1] at hv
   cases hv
   have:=Γ.rp (S:=C.S) (env:=⟨e1.val,fun b' o=>e1.prot b' o∨b'=b⟩) (w:=w) t x 0 b 0 (fun k=>vs.toList.getD k undef) (fun k hk=>⟨?_, .inr rfl⟩) (fun j=>(hg2.2 j).ext (E2 (freezeAll H l).length) I1.fresh)
   ·simpa using this
   ·have hk2:k < vs.toList.length:=by rw [hg2.1,hlen];exact hk
    have hk3:k < vs.size:=by simpa using hk2
    simp [World.cell?,q3,hk3]
 refine ⟨⟨fun _=>none,fun b' o=>e1.prot b' o∨b'=b⟩,Γ.lt2' hS hr rfl, ?_, ?_⟩
 ·exact ⟨fun i=>trivial,fun i u b hlv=>Bool.noConfusion (show false=true from hlv),fun i j u u' b hlv=>Bool.noConfusion (show false=true from hlv),I2.inheap,fun i u hu=>(by cases hu),fun g=>Γ.lt2' hS (I2.glob g) (hS.gl g),I2.base⟩
 ·have:=(E1.mono (Nat.zero_le _)).trans (E2 0)
  exact ⟨this.below,fun i u hi=>absurd hi (Nat.not_lt_zero _),this.prot,this.keep,this.newp⟩
def RunP (t:Law28Talk) (x:Law28exchange): Prop:=x=runX t
def run0:RL El:=fun args H K=>match args,H with
 | [.agg tc],[]=> match tkD tc with
  | some t=>Ob (RunH t)∧∀x:Law28exchange,RunP t x→K (.ref 0 0) (exHR x)
  | none=>False
 | _,_=>False
def runRL:RL El:=fun args H K=>match args,H with
 | [.agg tc],[]=> match tkD tc with
  | some t=>Ob (RunH t)∧∀x:Law28exchange,RunP t x→K (.rp 76 (x:El 76) 0) []
  | none=>False
 | _,_=>False
theorem runRL_nil {args:List (AV El)} {H:List (AObj El)} {K:AV El→List (AObj El)→Prop} (h:runRL args H K): H=[]:= by
 revert h
 unfold runRL
 split
 ·intro _;rfl
 ·intro h;exact h.elim
theorem run0_ok (args:List (AV El)) (H:List (AObj El)) (K:AV El→List (AObj El)→Prop) (h:run0 args H K): evFunT (mkCxR Try.prog S tab_procDue 0 [57,56,58]) rRun 4 32 args H K:=by
 unfold run0 at h
 split at h
 case h_2=>exact h.elim
 rename_i tc
 split at h
 case h_2=>exact h.elim
 rename_i t ht
 have:=tkD_ok ht
 subst this
 exact run.ok t h.1.out K (h.2 _ rfl)
theorem run0_of {args:List (AV El)} {H:List (AObj El)} {K:AV El→List (AObj El)→Prop} (h:runRL args H K): run0 args H fun r H' => ∃x:Law28exchange,r = .ref 0 0∧H'=exHR x∧K (.rp 76 (x:El 76) 0) []:= by
 unfold runRL at h
 unfold run0
 split at h
 case h_2=>exact h.elim
 rename_i tc
 split at h
 case h_2=>exact h.elim
 rename_i t ht
 exact ⟨h.1,fun x hx=>⟨x,rfl,rfl,h.2 x hx⟩⟩
def exHRc (x:Law28exchange): List (AV El):= match obj (freezeAll (exHR x) [1,2,3,4]) 0 with
 | .cells cs=>cs
 | _=>[]
theorem exHR_own (x:Law28exchange): ∀c∈exHRc x,∀j∈owns c,j∈[1,2,3,4]:= by
 intro c hc j hj
 have h1:(exHRc x).all (fun c=>(owns c).all fun j=>[1,2,3,4].contains j)= true:=by kernel_rfl
 have h2:=List.all_eq_true.1 h1 c hc
 have h3:=List.all_eq_true.1 h2 j hj
 exact List.contains_iff_mem.1 h3
def ended.dec (cs:List (AV El)): Option Law28exchange:=match cs with
 | [.rp t x 0]=> if h:t=76 then some (h ▸ x:El 76) else none
 | _=>none
theorem ended.dec_ok : ∀cs x,ended.dec cs=some x→Imp (S:=S) cs [.rp 76 (x:El 76) 0]:= by
 intro cs x h
 unfold ended.dec at h
 split at h
 ·split at h
  ·rename_i hu
   subst hu
   cases h
   exact .refl _
  ·cases h
 ·cases h
def exEnd (x:Law28exchange): Bool:=bif x.sides_0.Ended != (0:Int) then true else x.sides_1.Ended != (0:Int)
def ended.ct:Ct El:=ctOf ended.dec (fun _=>[]) (fun x => .v (.bool (exEnd x))) (fun _=>[])
def ended.nf (x:Law28exchange) (K:AV El→List (AObj El)→Prop): Prop:=Ob ((0:Int)≤(0:Int)∧(0:Int) < (↑(2:Nat): Int))∧(Ob (o3 (!x.sides_0.Ended != (0:Int)))∧(Ob (o3 (!x.sides_0.Ended != (0:Int)))∧(Ob (o3 (!x.sides_0.Ended != (0:Int)))∧(Ob ((!x.sides_0.Ended != (0:Int))= true→(0:Int)≤(1:Int)∧(1:Int) < (↑(2:Nat): Int))∧(Ob (o3 (!x.sides_0.Ended != (0:Int)))∧(Ob (o3 (!x.sides_0.Ended != (0:Int)))∧(Ob (o3 (!x.sides_0.Ended != (0:Int)))∧(Ob (on (x.sides_0.Ended != (0:Int)))∧(K (.v (.bool (bif x.sides_0.Ended != (0:Int) then true else x.sides_1.Ended != (0:Int)))) [])))))))))
theorem ended.nf_ok (x:Law28exchange) (K:AV El→List (AObj El)→Prop): evFun (mkCx Try.prog S tab0 0) 4 33 [.rp 76 (x:El 76) 0] [] K=ended.nf x K:=by kernel_rfl
theorem ended.ok:CtOk (mkCx Try.prog S [] 0) 33 ended.ct:=ct_mk (C:=mkCx Try.prog S tab0 0) (mkCx_ok sigOk mixed tab0_ok 0) ended.dec_ok (fun x=>rfl) 4 (fun x _=>(ended.nf_ok x _).mpr ⟨⟨by intros;decide⟩,⟨⟨o3_ok _⟩,⟨⟨o3_ok _⟩,⟨⟨o3_ok _⟩,⟨⟨by intros;decide⟩,⟨⟨o3_ok _⟩,⟨⟨o3_ok _⟩,⟨⟨o3_ok _⟩,⟨⟨on_ok _⟩,And.intro (by kernel_rfl) (by kernel_rfl)⟩⟩⟩⟩⟩⟩⟩⟩⟩)
def tab_lawB:List (FuncId×Ct El):= (33,ended.ct):: (27,ex28.ct):: tab_procDue
theorem tab_lawB_ok:TabOk Try.prog S tab_lawB:=⟨ended.ok,by kernel_rfl,ex28.ok,by kernel_rfl,tab_procDue_ok⟩
def rLaw:FuncId→Option (RL El):= fun f=>bif Nat.beq f 32 then some runRL else none
theorem rRun_lawR : ∀f L,rRun f=some L→LawOk (mkCxR Try.prog S tab_procDue 0 [57,56,58]) f L:=fun f L h=>by
 intro args H K k
 have hf:f=57∨f=56∨f=58:=by
  unfold rRun at h
  revert h
  cases h1:(Nat.beq f 57)
  ·cases h2:(Nat.beq f 56)
   ·cases h3:(Nat.beq f 58) <;> intro h
    ·cases h
    ·exact .inr (.inr (Nat.eq_of_beq_eq_true h3))
   ·intro _;exact .inr (.inl (Nat.eq_of_beq_eq_true h2))
  ·intro _;exact .inl (Nat.eq_of_beq_eq_true h1)
 have q:=rRun_law f L h args H K k
 rcases hf with rfl | rfl | rfl <;> exact q
theorem rLaw_law : ∀f L,rLaw f=some L→LawOk (mkCxW Try.prog S tab_lawB 0 0 [32]) f L:=by
 intro f L h
 unfold rLaw at h
 revert h
 cases hb:(Nat.beq f 32) <;> intro h
 ·cases h
 ·cases h
  rw [Nat.eq_of_beq_eq_true hb]
  intro args H K h
  have hH:H=[]:= runRL_nil h
  subst hH
  obtain ⟨hP,hL⟩:= law_of_evT (C:=(mkCxR Try.prog S tab_procDue 0 [57,56,58])) (mkCxR_ok sigOk mixed tab_procDue_ok 0 _) rRun_lawR 4 run0_ok args [] _ (run0_of h)
  refine ⟨hP,fun B env w vals hg hI=>(hL B env w vals hg hI).mono ?_⟩
  rintro e w' ⟨v,env',r,H',he,⟨x,rfl,rfl,hK⟩,hv,hI',hE,hn⟩
  obtain ⟨env2,k1,k2,k3⟩:= frz_all (C:=(mkCxW Try.prog S tab_lawB 0 0 [32])) sigOk hI' hv [1,2,3,4] (cs:=exHRc x) (exHR_own x) (by kernel_rfl) 76 (x:El 76) (by kernel_rfl)
  have h0 : ∀(C:Cx) (f:FuncId),lwm C f 0=0:=fun C f=>Nat.le_zero.1 (lwm_le f 0)
  exact ⟨v,env2, .rp 76 (x:El 76) 0,[],he,hK,k1,k2,(show Ext B 0 env w env2 w' from (hE.mono (Nat.zero_le _)).trans k3),Nat.le_of_eq (h0 (mkCxW Try.prog S tab_lawB 0 0 [32]) 32)⟩
end Go.Aw.W
