/- Contracts of the seat (printed by ct.py). -/
import Derived.Test.YtlnbhdcaebmffaaXW12
set_option linter.unusedVariables false
set_option linter.unusedSimpArgs false
set_option maxRecDepth 20000
set_option maxHeartbeats 1000000
namespace Go.Aw.W
open Go Go.Aw Go.Proofs
attribute [local irreducible] evCode evFun evOps evDs evOne ctxK loopK loopB subC bodyC headS okH roundK
attribute [local irreducible] cCheck loopL
/-! wireless/wirelesslaw28.ProcedureNews -/
def procedureNews.res (r : Bool) : AV El := .v (.bool (r))
def procedureNews.news (r : Bool) : List (AObj El) := []
def procedureNews.L (e v : Bool) : Prop := procedureNews.res e = procedureNews.res v ∧ procedureNews.news e = procedureNews.news v
def procedureNews (role : Int) (features : Int) (limit : Int) : Bool := bif sameProcs (procNew role features limit) (r28New role features limit) then ex28 else false
def procedureNews.dec (cs : List (AV El)) : Option (Int × Int × Int) := popI .i64 cs fun a0 c0 => popI .u64 c0 fun a1 c1 => popI .i64 c1 fun a2 c2 => popE c2 (a0, a1, a2)
def procedureNews.enc (x : Int × Int × Int) : List (AV El) := [.v (.int .i64 x.1), .v (.int .u64 x.2.1), .v (.int .i64 x.2.2)]
theorem procedureNews.dec_ok : ∀ cs x, procedureNews.dec cs = some x → Imp (S := S) cs (procedureNews.enc x) := by
  intro cs x h
  unfold procedureNews.dec at h
  obtain ⟨a0, c0, rfl, h0⟩ := popI_some (S := S) h
  obtain ⟨a1, c1, rfl, h1⟩ := popI_some (S := S) h0
  obtain ⟨a2, c2, rfl, h2⟩ := popI_some (S := S) h1
  obtain ⟨rfl, rfl⟩ := popE_some (S := S) h2
  exact (.cons (.cons (.cons (.refl _))))
def procedureNews.nf (role : Int) (features : Int) (limit : Int) (v : Bool) : Prop := Ob (o2 (sameProcs (procNew role features limit) (r28New role features limit))) ∧ (procedureNews.L (bif sameProcs (procNew role features limit) (r28New role features limit) then ex28 else false) v)
theorem procedureNews.nf_ok (role : Int) (features : Int) (limit : Int) (v : Bool) : evFun (mkCx Try.prog S tab_ex28 0) 4 9 [.v (.int .i64 role), .v (.int .u64 features), .v (.int .i64 limit)] [] (fun r' H' => Gives r' H' (procedureNews.res v) (procedureNews.news v)) = procedureNews.nf role features limit v := by kernel_rfl
theorem procedureNews.key (role : Int) (features : Int) (limit : Int) (v : Bool) (hv : v = procedureNews role features limit) : procedureNews.nf role features limit v := by
  unfold procedureNews at hv
  unfold procedureNews.nf
  refine ⟨⟨o2_ok _⟩, ?_⟩
  subst hv; exact ⟨rfl, rfl⟩
def procedureNews.ct : Ct El := ctOf procedureNews.dec (fun _ => []) (fun x => procedureNews.res (procedureNews x.1 x.2.1 x.2.2)) (fun x => procedureNews.news (procedureNews x.1 x.2.1 x.2.2))
theorem procedureNews.ok : CtOk (mkCx Try.prog S [] 0) 9 procedureNews.ct := ct_mk (C := (mkCx Try.prog S tab_ex28 0)) (mkCx_ok sigOk mixed tab_ex28_ok 0) procedureNews.dec_ok (fun x => rfl) 4 (fun x _ => (procedureNews.nf_ok x.1 x.2.1 x.2.2 _).mpr (procedureNews.key x.1 x.2.1 x.2.2 _ rfl))
def tab_procedureNews : List (FuncId × Ct El) := (9, procedureNews.ct) :: tab_ex28
theorem tab_procedureNews_ok : TabOk Try.prog S tab_procedureNews := ⟨procedureNews.ok, by kernel_rfl, tab_ex28_ok⟩

end Go.Aw.W
