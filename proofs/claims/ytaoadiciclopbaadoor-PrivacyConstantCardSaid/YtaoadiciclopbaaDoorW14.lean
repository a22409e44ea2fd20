/- Contracts of the seat (printed by ct.py). -/
import Derived.Test.YtaoadiciclopbaaDoorW13
set_option linter.unusedVariables false
set_option linter.unusedSimpArgs false
set_option maxRecDepth 20000
set_option maxHeartbeats 1000000
namespace Go.Aw.W
open Go Go.Aw Go.Proofs
attribute [local irreducible] evCode evFun evOps evDs evOne ctxK loopK loopB subC bodyC headS okH roundK

/-! wireless/privacy.Current -/
def pCurrent.res (r : Address) : AV El := Address.av (r)
def pCurrent.news (r : Address) : List (AObj El) := []
def pCurrent (id : Identity) (p1 : Bool) (p2 : Int) (period : Int) : Address := cond (bif !p1 then true else id.IRK == (0 : Int)) (id.Address) ((pAt id.IRK (pEpoch p2 period)))
def pCurrent.dec (cs : List (AV El)) : Option (Identity × Bool × Int × Int) := popA Identity.dec cs fun a0 c0 => popB c0 fun a1 c1 => popI .i64 c1 fun a2 c2 => popI .i64 c2 fun a3 c3 => popE c3 (a0, a1, a2, a3)
def pCurrent.enc (x : Identity × Bool × Int × Int) : List (AV El) := [Identity.av x.1, .v (.bool x.2.1), .v (.int .i64 x.2.2.1), .v (.int .i64 x.2.2.2)]
theorem pCurrent.dec_ok : ∀ cs x, pCurrent.dec cs = some x → Imp (S := S) cs (pCurrent.enc x) := by
  intro cs x h
  unfold pCurrent.dec at h
  obtain ⟨a0, c0, h0, k0⟩ := popA_some (S := S) Identity.dec_ok h
  obtain ⟨a1, c1, rfl, h1⟩ := popB_some (S := S) h0
  obtain ⟨a2, c2, rfl, h2⟩ := popI_some (S := S) h1
  obtain ⟨a3, c3, rfl, h3⟩ := popI_some (S := S) h2
  obtain ⟨rfl, rfl⟩ := popE_some (S := S) h3
  exact (k0 _ (.cons (.cons (.cons (.refl _)))))
def pCurrent.nf (id : Identity) (p1 : Bool) (p2 : Int) (period : Int) (K : AV El → List (AObj El) → Prop) : Prop := Ob (o3 (!!p1)) ∧ (Ob (o3 (!!p1)) ∧ (Ob (on (!p1)) ∧ (cond (bif !p1 then true else id.IRK == (0 : Int)) (K (.agg [.v (.int .i64 (id.Address.Kind)), .v (.int .u64 (id.Address.Bits))]) [.cells [.v (.int .i64 (id.Address.Kind)), .v (.int .u64 (id.Address.Bits)), .v (.int .u64 (id.IRK))], .cells [.v (.int .i64 (id.Address.Kind)), .v (.int .u64 (id.Address.Bits))]]) (K (.agg [.v (.int .i64 ((pAt id.IRK (pEpoch p2 period)).Kind)), .v (.int .u64 ((pAt id.IRK (pEpoch p2 period)).Bits))]) [.cells [.v (.int .i64 (id.Address.Kind)), .v (.int .u64 (id.Address.Bits)), .v (.int .u64 (id.IRK))], .cells [.v (.int .i64 ((pAt id.IRK (pEpoch p2 period)).Kind)), .v (.int .u64 ((pAt id.IRK (pEpoch p2 period)).Bits))]]))))
theorem pCurrent.nf_ok (id : Identity) (p1 : Bool) (p2 : Int) (period : Int) (K : AV El → List (AObj El) → Prop) : evFun (mkCxI Tryd.prog S tab_r9At 0 false sum_fIdx) 4 22 [Identity.av id, .v (.bool p1), .v (.int .i64 p2), .v (.int .i64 period)] [] K = pCurrent.nf id p1 p2 period K := by kernel_rfl
theorem pCurrent.key (id : Identity) (p1 : Bool) (p2 : Int) (period : Int) (v : Address) (hv : v = pCurrent id p1 p2 period) : pCurrent.nf id p1 p2 period (fun r' H' => Gives r' H' (pCurrent.res v) (pCurrent.news v)) := by
  unfold pCurrent at hv
  unfold pCurrent.nf
  refine ⟨⟨o3_ok _⟩, ?_⟩
  refine ⟨⟨o3_ok _⟩, ?_⟩
  refine ⟨⟨on_ok _⟩, ?_⟩
  revert hv; refine by_cond2 (fun hb hv => ?_) (fun hb hv => ?_)
  · subst hv; exact And.intro (by kernel_rfl) (by kernel_rfl)
  · subst hv; exact And.intro (by kernel_rfl) (by kernel_rfl)
def pCurrent.ct : Ct El := ctOf pCurrent.dec (fun _ => []) (fun x => pCurrent.res (pCurrent x.1 x.2.1 x.2.2.1 x.2.2.2)) (fun x => pCurrent.news (pCurrent x.1 x.2.1 x.2.2.1 x.2.2.2))
theorem pCurrent.ok : CtOk (mkCx Tryd.prog S [] 0) 22 pCurrent.ct := ct_mk (C := (mkCxI Tryd.prog S tab_r9At 0 false sum_fIdx)) (mkCxI_ok sigOk mixed tab_r9At_ok 0 false sum_fIdx_ok) pCurrent.dec_ok (fun x => rfl) 4 (fun x _ => (pCurrent.nf_ok x.1 x.2.1 x.2.2.1 x.2.2.2 _).mpr (pCurrent.key x.1 x.2.1 x.2.2.1 x.2.2.2 _ rfl))
def tab_pCurrent : List (FuncId × Ct El) := (22, pCurrent.ct) :: tab_r9At
theorem tab_pCurrent_ok : TabOk Tryd.prog S tab_pCurrent := ⟨pCurrent.ok, by kernel_rfl, tab_r9At_ok⟩

/-! wireless/wirelessref09.Current -/
def r9Current.res (r : Address) : AV El := Address.av (r)
def r9Current.news (r : Address) : List (AObj El) := []
def r9Current (id : Identity) (p1 : Bool) (p2 : Int) (period : Int) : Address := cond (bif p1 then id.IRK != (0 : Int) else false) ((r9At id.IRK (r9Epoch p2 period))) (id.Address)
def r9Current.dec (cs : List (AV El)) : Option (Identity × Bool × Int × Int) := popA Identity.dec cs fun a0 c0 => popB c0 fun a1 c1 => popI .i64 c1 fun a2 c2 => popI .i64 c2 fun a3 c3 => popE c3 (a0, a1, a2, a3)
def r9Current.enc (x : Identity × Bool × Int × Int) : List (AV El) := [Identity.av x.1, .v (.bool x.2.1), .v (.int .i64 x.2.2.1), .v (.int .i64 x.2.2.2)]
theorem r9Current.dec_ok : ∀ cs x, r9Current.dec cs = some x → Imp (S := S) cs (r9Current.enc x) := by
  intro cs x h
  unfold r9Current.dec at h
  obtain ⟨a0, c0, h0, k0⟩ := popA_some (S := S) Identity.dec_ok h
  obtain ⟨a1, c1, rfl, h1⟩ := popB_some (S := S) h0
  obtain ⟨a2, c2, rfl, h2⟩ := popI_some (S := S) h1
  obtain ⟨a3, c3, rfl, h3⟩ := popI_some (S := S) h2
  obtain ⟨rfl, rfl⟩ := popE_some (S := S) h3
  exact (k0 _ (.cons (.cons (.cons (.refl _)))))
def r9Current.nf (id : Identity) (p1 : Bool) (p2 : Int) (period : Int) (K : AV El → List (AObj El) → Prop) : Prop := Ob (o3 (p1)) ∧ (Ob (o3 (p1)) ∧ (Ob (o2 (p1)) ∧ (cond (bif p1 then id.IRK != (0 : Int) else false) (K (.agg [.v (.int .i64 ((r9At id.IRK (r9Epoch p2 period)).Kind)), .v (.int .u64 ((r9At id.IRK (r9Epoch p2 period)).Bits))]) [.cells [.v (.int .i64 (id.Address.Kind)), .v (.int .u64 (id.Address.Bits)), .v (.int .u64 (id.IRK))], .cells [.v (.int .i64 ((r9At id.IRK (r9Epoch p2 period)).Kind)), .v (.int .u64 ((r9At id.IRK (r9Epoch p2 period)).Bits))]]) (K (.agg [.v (.int .i64 (id.Address.Kind)), .v (.int .u64 (id.Address.Bits))]) [.cells [.v (.int .i64 (id.Address.Kind)), .v (.int .u64 (id.Address.Bits)), .v (.int .u64 (id.IRK))], .cells [.v (.int .i64 (id.Address.Kind)), .v (.int .u64 (id.Address.Bits))]]))))
theorem r9Current.nf_ok (id : Identity) (p1 : Bool) (p2 : Int) (period : Int) (K : AV El → List (AObj El) → Prop) : evFun (mkCxI Tryd.prog S tab_r9At 0 false sum_fIdx) 4 23 [Identity.av id, .v (.bool p1), .v (.int .i64 p2), .v (.int .i64 period)] [] K = r9Current.nf id p1 p2 period K := by kernel_rfl
theorem r9Current.key (id : Identity) (p1 : Bool) (p2 : Int) (period : Int) (v : Address) (hv : v = r9Current id p1 p2 period) : r9Current.nf id p1 p2 period (fun r' H' => Gives r' H' (r9Current.res v) (r9Current.news v)) := by
  unfold r9Current at hv
  unfold r9Current.nf
  refine ⟨⟨o3_ok _⟩, ?_⟩
  refine ⟨⟨o3_ok _⟩, ?_⟩
  refine ⟨⟨o2_ok _⟩, ?_⟩
  revert hv; refine by_cond2 (fun hb hv => ?_) (fun hb hv => ?_)
  · subst hv; exact And.intro (by kernel_rfl) (by kernel_rfl)
  · subst hv; exact And.intro (by kernel_rfl) (by kernel_rfl)
def r9Current.ct : Ct El := ctOf r9Current.dec (fun _ => []) (fun x => r9Current.res (r9Current x.1 x.2.1 x.2.2.1 x.2.2.2)) (fun x => r9Current.news (r9Current x.1 x.2.1 x.2.2.1 x.2.2.2))
theorem r9Current.ok : CtOk (mkCx Tryd.prog S [] 0) 23 r9Current.ct := ct_mk (C := (mkCxI Tryd.prog S tab_r9At 0 false sum_fIdx)) (mkCxI_ok sigOk mixed tab_r9At_ok 0 false sum_fIdx_ok) r9Current.dec_ok (fun x => rfl) 4 (fun x _ => (r9Current.nf_ok x.1 x.2.1 x.2.2.1 x.2.2.2 _).mpr (r9Current.key x.1 x.2.1 x.2.2.1 x.2.2.2 _ rfl))
def tab_r9Current : List (FuncId × Ct El) := (23, r9Current.ct) :: tab_pCurrent
theorem tab_r9Current_ok : TabOk Tryd.prog S tab_r9Current := ⟨r9Current.ok, by kernel_rfl, tab_pCurrent_ok⟩

end Go.Aw.W
