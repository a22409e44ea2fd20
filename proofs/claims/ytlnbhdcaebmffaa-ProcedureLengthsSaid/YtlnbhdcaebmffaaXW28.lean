/- Contracts of the seat (printed by ct.py). -/
import Derived.Test.YtlnbhdcaebmffaaXW26
set_option linter.unusedVariables false
set_option linter.unusedSimpArgs false
set_option maxRecDepth 20000
set_option maxHeartbeats 1000000
namespace Go.Aw.W
open Go Go.Aw Go.Proofs
attribute [local irreducible] evCode evFun evOps evDs evOne ctxK loopK loopB subC bodyC headS okH roundK
attribute [local irreducible] runX RunP loopT
def pRan (t:Law28Talk): Prop:=∀m∈t.Moves,0≤m.Side∧(0≤m.Arrive_0∧m.Arrive_0≤255)∧(0≤m.Arrive_1∧m.Arrive_1≤255)
theorem run_facts {t:Law28Talk} (hl:t.Moves.length≤60) {e:Law28exchange} (he:RunP t e): ((0≤e.versions_0∧e.versions_0≤1)∧(0≤e.versions_1∧e.versions_1≤1))∧(exEnd e=false→(e.queues_0=[]∧e.queues_1=[])∧
  (e.versions_0+e.versions_1≠0→e.sides_0.Version=11∧e.sides_1.Version=11)∧(e.sides_0.Own≠20→e.sides_1.Own≠20→e.sides_0.Length=e.sides_1.Length∧27≤e.sides_0.Length∧e.sides_0.Length≤251)∧
  (e.done_0=e.done_1∧∀x∈e.done_0,x.event=x.change.Instant)):= by
 obtain ⟨N,hX,hq⟩:= runX_ok t hl
 unfold RunP at he
 rw [←he] at hX hq
 have hv:=hX.x.versions
 refine ⟨⟨hv.1,hv.2.1⟩,fun hE=>?_⟩
 have hn:nendB e=true:=by unfold nendB;rw [show (bif e.sides_0.Ended != (0:Int) then true else e.sides_1.Ended != (0:Int))= exEnd e from rfl,hE];rfl
 have hne:=nendB_is.1 hn
 obtain ⟨q0,q1⟩:= hq hn
 exact ⟨⟨q0,q1⟩,fun h=>hv.2.2 hne q0 q1 h,fun h0 h1=>hX.x.lengths hne q0 q1 h0 h1,hX.x.together hne⟩
theorem ex28_eq:ex28=true:=by kernel_rfl
theorem bif_or2 {a b:Bool} (h:(bif a then true else b)= false): a=false∧b=false:=by cases a <;> cases b <;> simp at h ⊢
theorem cond_case2 {b:Bool} {p q:Prop} (h1:b=true→p) (h2:b=false→q): cond b p q:=by
 cases b
 ·exact h2 rfl
 ·exact h1 rfl
def procedureLengths (t:Law28Talk): Bool:=true
def procedureLengths.dec (cs:List (AV El)): Option (Law28Talk):= popA Law28Talk.dec cs fun a0 c0=>popE c0 a0
def procedureLengths.enc (x:Law28Talk): List (AV El):= [Law28Talk.av x]
theorem procedureLengths.dec_ok : ∀cs x,procedureLengths.dec cs=some x→Imp (S:=S) cs (procedureLengths.enc x):= by
 intro cs x h
 unfold procedureLengths.dec at h
 obtain ⟨a0,c0,h0,k0⟩:= popA_some (S:=S) Law28Talk.dec_ok h
 obtain ⟨rfl,rfl⟩:= popE_some (S:=S) h0
 exact (k0 _ (.refl _))
def procedureLengths.nf (t:Law28Talk) (K:AV El→List (AObj El)→Prop): Prop:=(List.length t.Moves≤(9223372036854775807:Nat))→(cond (decide ((60:Int) < (↑(List.length t.Moves): Int))) (K (.v (.bool (ex28))) []) (Ob (RunH t)∧(∀(z3:Law28exchange),((RunP t z3)→(Ob (o3 (!exEnd z3))∧(Ob (o3 (!exEnd z3))∧(Ob (o3 (!exEnd z3))∧(Ob ((!exEnd z3)= true→(0:Int)≤(0:Int)∧(0:Int) < (↑(2:Nat): Int))∧(Ob (o3 (!exEnd z3))∧(Ob (o3 (!exEnd z3))∧(Ob (o3 (!exEnd z3))∧(Ob (o3 (!exEnd z3))∧(Ob (o3 (!exEnd z3))∧(Ob ((!exEnd z3)= true→(0:Int)≤(1:Int)∧(1:Int) < (↑(2:Nat): Int))∧(Ob (o3 (!exEnd z3))∧(Ob (o3 (!exEnd z3))∧(Ob (o3 (!exEnd z3))∧(Ob (o3 (!exEnd z3))∧(Ob (o3 (!exEnd z3))∧(Ob (on (exEnd z3))∧(Ob (o3 (!bif exEnd z3 then true else decide ((0:Int) < IntKind.wrap IntKind.i64 ((↑(List.length z3.queues_0): Int)+ (↑(List.length z3.queues_1): Int)))))∧(Ob (o3 (!bif exEnd z3 then true else decide ((0:Int) < IntKind.wrap IntKind.i64 ((↑(List.length z3.queues_0): Int)+ (↑(List.length z3.queues_1): Int)))))∧(Ob (o3 (!bif exEnd z3 then true else decide ((0:Int) < IntKind.wrap IntKind.i64 ((↑(List.length z3.queues_0): Int)+ (↑(List.length z3.queues_1): Int)))))∧(Ob ((!bif exEnd z3 then true else decide ((0:Int) < IntKind.wrap IntKind.i64 ((↑(List.length z3.queues_0): Int)+ (↑(List.length z3.queues_1): Int))))= true→(0:Int)≤(0:Int)∧(0:Int) < (↑(2:Nat): Int))∧(Ob (o3 (!bif exEnd z3 then true else decide ((0:Int) < IntKind.wrap IntKind.i64 ((↑(List.length z3.queues_0): Int)+ (↑(List.length z3.queues_1): Int)))))∧(Ob (o3 (!bif exEnd z3 then true else decide ((0:Int) < IntKind.wrap IntKind.i64 ((↑(List.length z3.queues_0): Int)+ (↑(List.length z3.queues_1): Int)))))∧(Ob (o3 (!bif exEnd z3 then true else decide ((0:Int) < IntKind.wrap IntKind.i64 ((↑(List.length z3.queues_0): Int)+ (↑(List.length z3.queues_1): Int)))))∧(Ob (on (bif exEnd z3 then true else decide ((0:Int) < IntKind.wrap IntKind.i64 ((↑(List.length z3.queues_0): Int)+ (↑(List.length z3.queues_1): Int)))))∧(Ob (o3 (!bif bif exEnd z3 then true else decide ((0:Int) < IntKind.wrap IntKind.i64 ((↑(List.length z3.queues_0): Int)+ (↑(List.length z3.queues_1): Int))) then true else z3.sides_0.Own==(20:Int)))∧(Ob (o3 (!bif bif exEnd z3 then true else decide ((0:Int) < IntKind.wrap IntKind.i64 ((↑(List.length z3.queues_0): Int)+ (↑(List.length z3.queues_1): Int))) then true else z3.sides_0.Own==(20:Int)))∧(Ob (o3 (!bif bif exEnd z3 then true else decide ((0:Int) < IntKind.wrap IntKind.i64 ((↑(List.length z3.queues_0): Int)+ (↑(List.length z3.queues_1): Int))) then true else z3.sides_0.Own==(20:Int)))∧(Ob ((!bif bif exEnd z3 then true else decide ((0:Int) < IntKind.wrap IntKind.i64 ((↑(List.length z3.queues_0): Int)+ (↑(List.length z3.queues_1): Int))) then true else z3.sides_0.Own==(20:Int))= true→(0:Int)≤(1:Int)∧(1:Int) < (↑(2:Nat): Int))∧(Ob (o3 (!bif bif exEnd z3 then true else decide ((0:Int) < IntKind.wrap IntKind.i64 ((↑(List.length z3.queues_0): Int)+ (↑(List.length z3.queues_1): Int))) then true else z3.sides_0.Own==(20:Int)))∧(Ob (o3 (!bif bif exEnd z3 then true else decide ((0:Int) < IntKind.wrap IntKind.i64 ((↑(List.length z3.queues_0): Int)+ (↑(List.length z3.queues_1): Int))) then true else z3.sides_0.Own==(20:Int)))∧(Ob (o3 (!bif bif exEnd z3 then true else decide ((0:Int) < IntKind.wrap IntKind.i64 ((↑(List.length z3.queues_0): Int)+ (↑(List.length z3.queues_1): Int))) then true else z3.sides_0.Own==(20:Int)))∧(Ob (on (bif bif exEnd z3 then true else decide ((0:Int) < IntKind.wrap IntKind.i64 ((↑(List.length z3.queues_0): Int)+ (↑(List.length z3.queues_1): Int))) then true else z3.sides_0.Own==(20:Int)))∧(cond (bif bif bif exEnd z3 then true else decide ((0:Int) < IntKind.wrap IntKind.i64 ((↑(List.length z3.queues_0): Int)+ (↑(List.length z3.queues_1): Int))) then true else z3.sides_0.Own==(20:Int) then true else z3.sides_1.Own==(20:Int)) (K (.v (.bool (ex28))) []) (Ob ((0:Int)≤(0:Int)∧(0:Int) < (↑(2:Nat): Int))∧(Ob ((0:Int)≤(1:Int)∧(1:Int) < (↑(2:Nat): Int))∧(Ob (o3 (z3.sides_0.Length==z3.sides_1.Length))∧(Ob (o2 (z3.sides_0.Length==z3.sides_1.Length))∧(Ob (o3 (bif z3.sides_0.Length==z3.sides_1.Length then decide ((27:Int)≤z3.sides_0.Length) else false))∧(Ob (o2 (bif z3.sides_0.Length==z3.sides_1.Length then decide ((27:Int)≤z3.sides_0.Length) else false))∧(Ob (o2 (bif bif z3.sides_0.Length==z3.sides_1.Length then decide ((27:Int)≤z3.sides_0.Length) else false then decide (z3.sides_0.Length≤(251:Int)) else false))∧(K (.v (.bool (bif bif bif z3.sides_0.Length==z3.sides_1.Length then decide ((27:Int)≤z3.sides_0.Length) else false then decide (z3.sides_0.Length≤(251:Int)) else false then ex28 else false))) [])))))))))))))))))))))))))))))))))))))))))))))
theorem procedureLengths.nf_ok (t:Law28Talk) (K:AV El→List (AObj El)→Prop): evFunT (mkCxW Try.prog S tab_lawB 0 0 [32]) rLaw 4 13 [Law28Talk.av t] [] K=procedureLengths.nf t K:=by kernel_rfl
theorem procedureLengths.key (t:Law28Talk) (hp:pRan t) (K:AV El→List (AObj El)→Prop) (hK:K (.v (.bool true)) []): procedureLengths.nf t K:=by
 unfold procedureLengths.nf
 intro _
 refine cond_case2 (fun hb1=>?_) (fun hb1=>?_)
 ·rw [ex28_eq];exact hK
 ·have hl:t.Moves.length≤60:=by simp only [decide_eq_false_iff_not] at hb1;omega
  refine ⟨⟨⟨hl,hp⟩⟩, ?_⟩
  intro z3
  intro hz
  have hF:=run_facts hl hz
  clear hz
  iterate 3 refine ⟨⟨o3_ok _⟩, ?_⟩
  refine ⟨⟨by intros;decide⟩, ?_⟩
  iterate 5 refine ⟨⟨o3_ok _⟩, ?_⟩
  refine ⟨⟨by intros;decide⟩, ?_⟩
  iterate 5 refine ⟨⟨o3_ok _⟩, ?_⟩
  refine ⟨⟨on_ok _⟩, ?_⟩
  iterate 3 refine ⟨⟨o3_ok _⟩, ?_⟩
  refine ⟨⟨by intros;decide⟩, ?_⟩
  iterate 3 refine ⟨⟨o3_ok _⟩, ?_⟩
  refine ⟨⟨on_ok _⟩, ?_⟩
  iterate 3 refine ⟨⟨o3_ok _⟩, ?_⟩
  refine ⟨⟨by intros;decide⟩, ?_⟩
  iterate 3 refine ⟨⟨o3_ok _⟩, ?_⟩
  refine ⟨⟨on_ok _⟩, ?_⟩
  refine cond_case2 (fun hb2=>?_) (fun hb2=>?_)
  ·rw [ex28_eq];exact hK
  ·refine ⟨⟨by intros;decide⟩, ?_⟩
   refine ⟨⟨by intros;decide⟩, ?_⟩
   refine ⟨⟨o3_ok _⟩, ?_⟩
   refine ⟨⟨o2_ok _⟩, ?_⟩
   refine ⟨⟨o3_ok _⟩, ?_⟩
   iterate 2 refine ⟨⟨o2_ok _⟩, ?_⟩
   obtain ⟨hw,o1⟩:= bif_or2 hb2
   obtain ⟨hw,o0⟩:= bif_or2 hw
   obtain ⟨he,_⟩:= bif_or2 hw
   obtain ⟨l0,l1,l2⟩:= (hF.2 he).2.2.1 (by simpa using o0) (by simpa using o1)
   rw [←l0,ex28_eq]
   rw [show (z3.sides_0.Length==z3.sides_0.Length)= true from beq_self_eq_true _,decide_eq_true l1,decide_eq_true l2];exact hK
def procedureLengths.ct:Ct El:=ctOf procedureLengths.dec (fun x=>[pRan x]) (fun x => .v (.bool (procedureLengths x))) (fun _=>[])
theorem procedureLengths.ok:CtOk (mkCx Try.prog S [] 0) 13 procedureLengths.ct:=ct_mkT (C:=(mkCxW Try.prog S tab_lawB 0 0 [32])) (mkCxW_ok sigOk mixed tab_lawB_ok 0 0 [32]) rLaw_law procedureLengths.dec_ok (fun x=>rfl) 4 (fun x hp=>(procedureLengths.nf_ok x _).mpr (procedureLengths.key x (hp _ (List.mem_singleton.2 rfl)) _ (And.intro (by kernel_rfl) (by kernel_rfl))))
end Go.Aw.W
