/- Contracts of the seat (printed by ct.py). -/
import Derived.Test.YtlnbhdcaebmffaaXW22
set_option linter.unusedVariables false
set_option linter.unusedSimpArgs false
set_option maxRecDepth 20000
set_option maxHeartbeats 1000000
namespace Go.Aw.W
open Go Go.Aw Go.Proofs
attribute [local irreducible] evCode evFun evOps evDs evOne ctxK loopK loopB subC bodyC headS okH roundK
attribute [local irreducible] cCheck procStart procHandle procReady procDue loopL
def begRA:RL El:=fun args H K=>match args,exDA H with
 | [.ref 1 0],some y=>Ob (BegH y.2)∧∀x:Law28exchange,x=begE y.2→K (.tup []) (exHA y.1 x)
 | _,_=>False
def ArrH0 (f2:Law28Talk) (e:Law28exchange) (n:Int): Prop:=(0≤n∧n≤1000)∧∃I:Law28exchange→Prop,I e∧∀e,I e→goes0 e=true→DlvH0 f2 e∧I (dX0 f2 e)
def ArrH1 (f2:Law28Talk) (e:Law28exchange) (n:Int): Prop:=(0≤n∧n≤1000)∧∃I:Law28exchange→Prop,I e∧∀e,I e→goes1 e=true→DlvH1 f2 e∧I (dX1 f2 e)
def arrRA:RL El:=fun args H K=>match args,exDA H with
 | [.ref 1 0, .agg tc, .v (.int .i64 k), .v (.int .i64 n)],some y=>match tkD tc with
  | some f2=>cond (k==0) (Ob (ArrH0 f2 y.2 n)∧∀x:Law28exchange,x=arr0F f2 n.toNat y.2→K (.tup []) (exHA y.1 x)) (cond (k==1) (Ob (ArrH1 f2 y.2 n)∧∀x:Law28exchange,x=arr1F f2 n.toNat y.2→K (.tup []) (exHA y.1 x)) False)
  | none=>False
 | _,_=>False
theorem begRA_ok (args:List (AV El)) (H:List (AObj El)) (K:AV El→List (AObj El)→Prop) (h:begRA args H K): evFunT (mkCxW Try.prog S tab_procDue 3 2 [57,56,58]) rPutA 4 56 args H K:=by
 unfold begRA at h
 split at h
 case h_2=>exact h.elim
 rename_i y he
 have:=exDA_ok he
 subst this
 exact begA.ok y.1 y.2 h.1.out K (h.2 _ rfl)
theorem arrRA_ok (args:List (AV El)) (H:List (AObj El)) (K:AV El→List (AObj El)→Prop) (h:arrRA args H K): evFunT (mkCxV Try.prog S tab_procDue 102 lwV [8]) rPutC 4 58 args H K:=by
 unfold arrRA at h
 split at h
 case h_2=>exact h.elim
 rename_i tc k n y he
 have:=exDA_ok he
 subst this
 split at h
 case h_2=>exact h.elim
 rename_i f2 ht
 have:=tkD_ok ht
 subst this
 cases h0:(k==0) with
 | true =>
  rw [h0,cond_true] at h
  have:=eq_of_beq h0
  subst this
  obtain ⟨⟨⟨hn0,hn1⟩,I,hI,hS⟩⟩:= h.1
  have:=arr0.ok y.1 f2 I hS y.2 hI n.toNat (by omega) K (h.2 _ rfl)
  rw [Int.toNat_of_nonneg hn0] at this
  exact this
 | false =>
 rw [h0,cond_false] at h
 cases h1:(k==1) with
 | true =>
  rw [h1,cond_true] at h
  have:=eq_of_beq h1
  subst this
  obtain ⟨⟨⟨hn0,hn1⟩,I,hI,hS⟩⟩:= h.1
  have:=arr1.ok y.1 f2 I hS y.2 hI n.toNat (by omega) K (h.2 _ rfl)
  rw [Int.toNat_of_nonneg hn0] at this
  exact this
 | false=>rw [h1,cond_false] at h;exact h.elim
def putRX:RL El:=fun args H K=>match args,exDA H with
 | [.ref 1 0, .v (.int .i64 k),x],some y=>slX 28 x fun l=>cond (k==0) (Ob (putA0.hyp y.2 l)∧∀x:Law28exchange,x=putA0F y.2 l→K (.tup []) (exHA y.1 x)) (cond (k==1) (Ob (putA1.hyp y.2 l)∧∀x:Law28exchange,x=putA1F y.2 l→K (.tup []) (exHA y.1 x)) False)
 | _,_=>False
theorem putRX_le (args:List (AV El)) (H:List (AObj El)) (K:AV El→List (AObj El)→Prop) (h:putRX args H K): putRA args H K:=by
 unfold putRX at h
 unfold putRA
 split at h
 case h_2=>exact h.elim
 rename_i k x y he
 obtain ⟨l,rfl,q⟩:= slX_some h
 rw [he]
 show cond (k==0) _ _
 revert q
 cases (k==0)
 ·cases (k==1)
  ·exact fun q=>q.elim
  ·exact fun q=>⟨q.1,q.2 _ rfl⟩
 ·exact fun q=>⟨q.1,q.2 _ rfl⟩
def rRun:FuncId→Option (RL El):= fun f=>bif Nat.beq f 57 then some putRX else bif Nat.beq f 56 then some begRA else bif Nat.beq f 58 then some arrRA else none
theorem putRA_law:LawOk (mkCxW Try.prog S tab_procDue 0 2 [57,56,58]) 57 putRA:=law_of_ev (mkCxW_ok sigOk mixed tab_procDue_ok 0 2 _) 3 putRA_ok
theorem putRC_law:LawOk (mkCxV Try.prog S tab_procDue 102 lwV [8]) 57 putRC:=fun args H K h=>law_of_ev (mkCxW_ok sigOk mixed tab_procDue_ok 0 4 [57,56,58]) 3 putRC_ok args H K h
theorem begRA_law:LawOk (mkCxW Try.prog S tab_procDue 0 2 [57,56,58]) 56 begRA:=fun args H K h=>law_of_evT (C:=(mkCxW Try.prog S tab_procDue 3 2 [57,56,58])) (mkCxW_ok sigOk mixed tab_procDue_ok 3 2 [57,56,58]) (R:=rPutA) (fun f L h=>by
 unfold rPutA at h
 revert h
 cases hb:(Nat.beq f 57) <;> intro h
 ·cases h
 ·cases h
  rw [Nat.eq_of_beq_eq_true hb]
  exact fun args H K h=>putRA_law args H K h) 4 begRA_ok args H K h
theorem arrRA_law:LawOk (mkCxW Try.prog S tab_procDue 0 2 [57,56,58]) 58 arrRA:=fun args H K h=>law_of_evT (C:=(mkCxV Try.prog S tab_procDue 102 lwV [8])) (mkCxV_ok sigOk mixed tab_procDue_ok 102 lwV [8]) (R:=rPutC) (fun f L h=>by
 unfold rPutC at h
 revert h
 cases hb:(Nat.beq f 57) <;> intro h
 ·cases h
 ·cases h
  rw [Nat.eq_of_beq_eq_true hb]
  exact putRC_law) 4 arrRA_ok args H K h
theorem rRun_law : ∀f L,rRun f=some L→LawOk (mkCxW Try.prog S tab_procDue 0 2 [57,56,58]) f L:=by
 intro f L h
 unfold rRun at h
 revert h
 cases hb:(Nat.beq f 57)
 ·cases hb2:(Nat.beq f 56)
  ·cases hb3:(Nat.beq f 58) <;> intro h
   ·cases h
   ·cases h;rw [Nat.eq_of_beq_eq_true hb3];exact arrRA_law
  ·intro h;cases h;rw [Nat.eq_of_beq_eq_true hb2];exact begRA_law
 ·intro h;cases h;rw [Nat.eq_of_beq_eq_true hb];exact fun args H K h=>putRA_law args H K (putRX_le args H K h)
end Go.Aw.W
