/- Contracts of the seat (printed by ct.py). -/
import Derived.Test.YtkngobfkfleacaaW0
set_option linter.unusedVariables false
set_option linter.unusedSimpArgs false
set_option maxRecDepth 20000
set_option maxHeartbeats 1000000
namespace Go.Aw.W
open Go Go.Aw Go.Proofs
attribute [local irreducible] evCode evFun evOps evDs evOne ctxK loopK loopB subC bodyC headS okH roundK

/-! wireless/wirelessref17.within -/
def r17within.res (r : Bool) : AV El := .v (.bool (r))
def r17within.news (r : Bool) : List (AObj El) := []
def r17within (n : Int) (low : Int) (high : Int) : Bool := bif decide (low ≤ n) then decide (n ≤ high) else false
def r17within.dec (cs : List (AV El)) : Option (Int × Int × Int) := popI .i64 cs fun a0 c0 => popI .i64 c0 fun a1 c1 => popI .i64 c1 fun a2 c2 => popE c2 (a0, a1, a2)
def r17within.enc (x : Int × Int × Int) : List (AV El) := [.v (.int .i64 x.1), .v (.int .i64 x.2.1), .v (.int .i64 x.2.2)]
theorem r17within.dec_ok : ∀ cs x, r17within.dec cs = some x → Imp (S := S) cs (r17within.enc x) := by
  intro cs x h
  unfold r17within.dec at h
  obtain ⟨a0, c0, rfl, h0⟩ := popI_some (S := S) h
  obtain ⟨a1, c1, rfl, h1⟩ := popI_some (S := S) h0
  obtain ⟨a2, c2, rfl, h2⟩ := popI_some (S := S) h1
  obtain ⟨rfl, rfl⟩ := popE_some (S := S) h2
  exact (.cons (.cons (.cons (.refl _))))
def r17within.nf (n : Int) (low : Int) (high : Int) (K : AV El → List (AObj El) → Prop) : Prop := Ob (o3 (decide (low ≤ n))) ∧ (Ob (o3 (decide (low ≤ n))) ∧ (Ob (o2 (decide (low ≤ n))) ∧ (K (.v (.bool (bif decide (low ≤ n) then decide (n ≤ high) else false))) [])))
theorem r17within.nf_ok (n : Int) (low : Int) (high : Int) (K : AV El → List (AObj El) → Prop) : evFun (mkCx Try.prog S tab0 0) 4 37 [.v (.int .i64 n), .v (.int .i64 low), .v (.int .i64 high)] [] K = r17within.nf n low high K := by kernel_rfl
theorem r17within.key (n : Int) (low : Int) (high : Int) (v : Bool) (hv : v = r17within n low high) : r17within.nf n low high (fun r' H' => Gives r' H' (r17within.res v) (r17within.news v)) := by
  unfold r17within at hv
  unfold r17within.nf
  refine ⟨⟨o3_ok _⟩, ?_⟩
  refine ⟨⟨o3_ok _⟩, ?_⟩
  refine ⟨⟨o2_ok _⟩, ?_⟩
  subst hv; exact And.intro (by kernel_rfl) (by kernel_rfl)
def r17within.ct : Ct El := ctOf r17within.dec (fun _ => []) (fun x => r17within.res (r17within x.1 x.2.1 x.2.2)) (fun x => r17within.news (r17within x.1 x.2.1 x.2.2))
theorem r17within.ok : CtOk (mkCx Try.prog S [] 0) 37 r17within.ct := ct_mk (C := (mkCx Try.prog S tab0 0)) (mkCx_ok sigOk mixed tab0_ok 0) r17within.dec_ok (fun x => rfl) 4 (fun x _ => (r17within.nf_ok x.1 x.2.1 x.2.2 _).mpr (r17within.key x.1 x.2.1 x.2.2 _ rfl))
def tab_r17within : List (FuncId × Ct El) := (37, r17within.ct) :: tab0
theorem tab_r17within_ok : TabOk Try.prog S tab_r17within := ⟨r17within.ok, by kernel_rfl, tab0_ok⟩

/-! wireless/wirelessref17.limited -/
def r17limited.res (r : Int) : AV El := .v (.int .i64 (r))
def r17limited.news (r : Int) : List (AObj El) := []
def r17limited (n : Int) (low : Int) (high : Int) : Int := maxI low (minI n high)
def r17limited.dec (cs : List (AV El)) : Option (Int × Int × Int) := popI .i64 cs fun a0 c0 => popI .i64 c0 fun a1 c1 => popI .i64 c1 fun a2 c2 => popE c2 (a0, a1, a2)
def r17limited.enc (x : Int × Int × Int) : List (AV El) := [.v (.int .i64 x.1), .v (.int .i64 x.2.1), .v (.int .i64 x.2.2)]
theorem r17limited.dec_ok : ∀ cs x, r17limited.dec cs = some x → Imp (S := S) cs (r17limited.enc x) := by
  intro cs x h
  unfold r17limited.dec at h
  obtain ⟨a0, c0, rfl, h0⟩ := popI_some (S := S) h
  obtain ⟨a1, c1, rfl, h1⟩ := popI_some (S := S) h0
  obtain ⟨a2, c2, rfl, h2⟩ := popI_some (S := S) h1
  obtain ⟨rfl, rfl⟩ := popE_some (S := S) h2
  exact (.cons (.cons (.cons (.refl _))))
def r17limited.nf (n : Int) (low : Int) (high : Int) (K : AV El → List (AObj El) → Prop) : Prop := K (.v (.int .i64 (maxI low (minI n high)))) []
theorem r17limited.nf_ok (n : Int) (low : Int) (high : Int) (K : AV El → List (AObj El) → Prop) : evFun (mkCx Try.prog S tab0 0) 4 52 [.v (.int .i64 n), .v (.int .i64 low), .v (.int .i64 high)] [] K = r17limited.nf n low high K := by kernel_rfl
theorem r17limited.key (n : Int) (low : Int) (high : Int) (v : Int) (hv : v = r17limited n low high) : r17limited.nf n low high (fun r' H' => Gives r' H' (r17limited.res v) (r17limited.news v)) := by
  unfold r17limited at hv
  unfold r17limited.nf
  subst hv; exact And.intro (by kernel_rfl) (by kernel_rfl)
def r17limited.ct : Ct El := ctOf r17limited.dec (fun _ => []) (fun x => r17limited.res (r17limited x.1 x.2.1 x.2.2)) (fun x => r17limited.news (r17limited x.1 x.2.1 x.2.2))
theorem r17limited.ok : CtOk (mkCx Try.prog S [] 0) 52 r17limited.ct := ct_mk (C := (mkCx Try.prog S tab0 0)) (mkCx_ok sigOk mixed tab0_ok 0) r17limited.dec_ok (fun x => rfl) 4 (fun x _ => (r17limited.nf_ok x.1 x.2.1 x.2.2 _).mpr (r17limited.key x.1 x.2.1 x.2.2 _ rfl))
def tab_r17limited : List (FuncId × Ct El) := (52, r17limited.ct) :: tab_r17within
theorem tab_r17limited_ok : TabOk Try.prog S tab_r17limited := ⟨r17limited.ok, by kernel_rfl, tab_r17within_ok⟩

/-! wireless/connect.limit -/
def climit.res (r : Int) : AV El := .v (.int .i64 (r))
def climit.news (r : Int) : List (AObj El) := []
def climit (n : Int) (low : Int) (high : Int) : Int := minI (maxI n low) high
def climit.dec (cs : List (AV El)) : Option (Int × Int × Int) := popI .i64 cs fun a0 c0 => popI .i64 c0 fun a1 c1 => popI .i64 c1 fun a2 c2 => popE c2 (a0, a1, a2)
def climit.enc (x : Int × Int × Int) : List (AV El) := [.v (.int .i64 x.1), .v (.int .i64 x.2.1), .v (.int .i64 x.2.2)]
theorem climit.dec_ok : ∀ cs x, climit.dec cs = some x → Imp (S := S) cs (climit.enc x) := by
  intro cs x h
  unfold climit.dec at h
  obtain ⟨a0, c0, rfl, h0⟩ := popI_some (S := S) h
  obtain ⟨a1, c1, rfl, h1⟩ := popI_some (S := S) h0
  obtain ⟨a2, c2, rfl, h2⟩ := popI_some (S := S) h1
  obtain ⟨rfl, rfl⟩ := popE_some (S := S) h2
  exact (.cons (.cons (.cons (.refl _))))
def climit.nf (n : Int) (low : Int) (high : Int) (K : AV El → List (AObj El) → Prop) : Prop := K (.v (.int .i64 (minI (maxI n low) high))) []
theorem climit.nf_ok (n : Int) (low : Int) (high : Int) (K : AV El → List (AObj El) → Prop) : evFun (mkCx Try.prog S tab0 0) 4 51 [.v (.int .i64 n), .v (.int .i64 low), .v (.int .i64 high)] [] K = climit.nf n low high K := by kernel_rfl
theorem climit.key (n : Int) (low : Int) (high : Int) (v : Int) (hv : v = climit n low high) : climit.nf n low high (fun r' H' => Gives r' H' (climit.res v) (climit.news v)) := by
  unfold climit at hv
  unfold climit.nf
  subst hv; exact And.intro (by kernel_rfl) (by kernel_rfl)
def climit.ct : Ct El := ctOf climit.dec (fun _ => []) (fun x => climit.res (climit x.1 x.2.1 x.2.2)) (fun x => climit.news (climit x.1 x.2.1 x.2.2))
theorem climit.ok : CtOk (mkCx Try.prog S [] 0) 51 climit.ct := ct_mk (C := (mkCx Try.prog S tab0 0)) (mkCx_ok sigOk mixed tab0_ok 0) climit.dec_ok (fun x => rfl) 4 (fun x _ => (climit.nf_ok x.1 x.2.1 x.2.2 _).mpr (climit.key x.1 x.2.1 x.2.2 _ rfl))
def tab_climit : List (FuncId × Ct El) := (51, climit.ct) :: tab_r17limited
theorem tab_climit_ok : TabOk Try.prog S tab_climit := ⟨climit.ok, by kernel_rfl, tab_r17limited_ok⟩

/-! wireless/wirelessref11.limited -/
def r11limited.res (r : Int) : AV El := .v (.int .i64 (r))
def r11limited.news (r : Int) : List (AObj El) := []
def r11limited (n : Int) (low : Int) (high : Int) : Int := cond (decide (n < low)) (low) (cond (decide (high < n)) (high) (n))
def r11limited.dec (cs : List (AV El)) : Option (Int × Int × Int) := popI .i64 cs fun a0 c0 => popI .i64 c0 fun a1 c1 => popI .i64 c1 fun a2 c2 => popE c2 (a0, a1, a2)
def r11limited.enc (x : Int × Int × Int) : List (AV El) := [.v (.int .i64 x.1), .v (.int .i64 x.2.1), .v (.int .i64 x.2.2)]
theorem r11limited.dec_ok : ∀ cs x, r11limited.dec cs = some x → Imp (S := S) cs (r11limited.enc x) := by
  intro cs x h
  unfold r11limited.dec at h
  obtain ⟨a0, c0, rfl, h0⟩ := popI_some (S := S) h
  obtain ⟨a1, c1, rfl, h1⟩ := popI_some (S := S) h0
  obtain ⟨a2, c2, rfl, h2⟩ := popI_some (S := S) h1
  obtain ⟨rfl, rfl⟩ := popE_some (S := S) h2
  exact (.cons (.cons (.cons (.refl _))))
def r11limited.nf (n : Int) (low : Int) (high : Int) (K : AV El → List (AObj El) → Prop) : Prop := cond (decide (n < low)) (K (.v (.int .i64 (low))) []) (cond (decide (high < n)) (K (.v (.int .i64 (high))) []) (K (.v (.int .i64 (n))) []))
theorem r11limited.nf_ok (n : Int) (low : Int) (high : Int) (K : AV El → List (AObj El) → Prop) : evFun (mkCx Try.prog S tab0 0) 4 67 [.v (.int .i64 n), .v (.int .i64 low), .v (.int .i64 high)] [] K = r11limited.nf n low high K := by kernel_rfl
theorem r11limited.key (n : Int) (low : Int) (high : Int) (v : Int) (hv : v = r11limited n low high) : r11limited.nf n low high (fun r' H' => Gives r' H' (r11limited.res v) (r11limited.news v)) := by
  unfold r11limited at hv
  unfold r11limited.nf
  refine by_cond (fun hb hv => ?_) (fun hb hv => ?_) hv
  · subst hv; exact And.intro (by kernel_rfl) (by kernel_rfl)
  · refine by_cond (fun hb hv => ?_) (fun hb hv => ?_) hv
    · subst hv; exact And.intro (by kernel_rfl) (by kernel_rfl)
    · subst hv; exact And.intro (by kernel_rfl) (by kernel_rfl)
def r11limited.ct : Ct El := ctOf r11limited.dec (fun _ => []) (fun x => r11limited.res (r11limited x.1 x.2.1 x.2.2)) (fun x => r11limited.news (r11limited x.1 x.2.1 x.2.2))
theorem r11limited.ok : CtOk (mkCx Try.prog S [] 0) 67 r11limited.ct := ct_mk (C := (mkCx Try.prog S tab0 0)) (mkCx_ok sigOk mixed tab0_ok 0) r11limited.dec_ok (fun x => rfl) 4 (fun x _ => (r11limited.nf_ok x.1 x.2.1 x.2.2 _).mpr (r11limited.key x.1 x.2.1 x.2.2 _ rfl))
def tab_r11limited : List (FuncId × Ct El) := (67, r11limited.ct) :: tab_climit
theorem tab_r11limited_ok : TabOk Try.prog S tab_r11limited := ⟨r11limited.ok, by kernel_rfl, tab_climit_ok⟩

/-! wireless/clock.limit -/
def klimit.res (r : Int) : AV El := .v (.int .i64 (r))
def klimit.news (r : Int) : List (AObj El) := []
def klimit (n : Int) (low : Int) (high : Int) : Int := minI (maxI n low) high
def klimit.dec (cs : List (AV El)) : Option (Int × Int × Int) := popI .i64 cs fun a0 c0 => popI .i64 c0 fun a1 c1 => popI .i64 c1 fun a2 c2 => popE c2 (a0, a1, a2)
def klimit.enc (x : Int × Int × Int) : List (AV El) := [.v (.int .i64 x.1), .v (.int .i64 x.2.1), .v (.int .i64 x.2.2)]
theorem klimit.dec_ok : ∀ cs x, klimit.dec cs = some x → Imp (S := S) cs (klimit.enc x) := by
  intro cs x h
  unfold klimit.dec at h
  obtain ⟨a0, c0, rfl, h0⟩ := popI_some (S := S) h
  obtain ⟨a1, c1, rfl, h1⟩ := popI_some (S := S) h0
  obtain ⟨a2, c2, rfl, h2⟩ := popI_some (S := S) h1
  obtain ⟨rfl, rfl⟩ := popE_some (S := S) h2
  exact (.cons (.cons (.cons (.refl _))))
def klimit.nf (n : Int) (low : Int) (high : Int) (K : AV El → List (AObj El) → Prop) : Prop := K (.v (.int .i64 (minI (maxI n low) high))) []
theorem klimit.nf_ok (n : Int) (low : Int) (high : Int) (K : AV El → List (AObj El) → Prop) : evFun (mkCx Try.prog S tab0 0) 4 58 [.v (.int .i64 n), .v (.int .i64 low), .v (.int .i64 high)] [] K = klimit.nf n low high K := by kernel_rfl
theorem klimit.key (n : Int) (low : Int) (high : Int) (v : Int) (hv : v = klimit n low high) : klimit.nf n low high (fun r' H' => Gives r' H' (klimit.res v) (klimit.news v)) := by
  unfold klimit at hv
  unfold klimit.nf
  subst hv; exact And.intro (by kernel_rfl) (by kernel_rfl)
def klimit.ct : Ct El := ctOf klimit.dec (fun _ => []) (fun x => klimit.res (klimit x.1 x.2.1 x.2.2)) (fun x => klimit.news (klimit x.1 x.2.1 x.2.2))
theorem klimit.ok : CtOk (mkCx Try.prog S [] 0) 58 klimit.ct := ct_mk (C := (mkCx Try.prog S tab0 0)) (mkCx_ok sigOk mixed tab0_ok 0) klimit.dec_ok (fun x => rfl) 4 (fun x _ => (klimit.nf_ok x.1 x.2.1 x.2.2 _).mpr (klimit.key x.1 x.2.1 x.2.2 _ rfl))
def tab_klimit : List (FuncId × Ct El) := (58, klimit.ct) :: tab_r11limited
theorem tab_klimit_ok : TabOk Try.prog S tab_klimit := ⟨klimit.ok, by kernel_rfl, tab_r11limited_ok⟩

/-! wireless/octets.sized -/
def sized.res (r : Bool) : AV El := .v (.bool (r))
def sized.news (r : Bool) : List (AObj El) := []
def sized (n : Int) : Bool := bif decide ((1 : Int) ≤ n) then decide (n ≤ (8 : Int)) else false
def sized.dec (cs : List (AV El)) : Option (Int) := popI .i64 cs fun a0 c0 => popE c0 a0
def sized.enc (x : Int) : List (AV El) := [.v (.int .i64 x)]
theorem sized.dec_ok : ∀ cs x, sized.dec cs = some x → Imp (S := S) cs (sized.enc x) := by
  intro cs x h
  unfold sized.dec at h
  obtain ⟨a0, c0, rfl, h0⟩ := popI_some (S := S) h
  obtain ⟨rfl, rfl⟩ := popE_some (S := S) h0
  exact (.cons (.refl _))
def sized.nf (n : Int) (K : AV El → List (AObj El) → Prop) : Prop := Ob (o3 (decide ((1 : Int) ≤ n))) ∧ (Ob (o2 (decide ((1 : Int) ≤ n))) ∧ (K (.v (.bool (bif decide ((1 : Int) ≤ n) then decide (n ≤ (8 : Int)) else false))) []))
theorem sized.nf_ok (n : Int) (K : AV El → List (AObj El) → Prop) : evFun (mkCx Try.prog S tab0 0) 4 62 [.v (.int .i64 n)] [] K = sized.nf n K := by kernel_rfl
theorem sized.key (n : Int) (v : Bool) (hv : v = sized n) : sized.nf n (fun r' H' => Gives r' H' (sized.res v) (sized.news v)) := by
  unfold sized at hv
  unfold sized.nf
  refine ⟨⟨o3_ok _⟩, ?_⟩
  refine ⟨⟨o2_ok _⟩, ?_⟩
  subst hv; exact And.intro (by kernel_rfl) (by kernel_rfl)
def sized.ct : Ct El := ctOf sized.dec (fun _ => []) (fun x => sized.res (sized x)) (fun x => sized.news (sized x))
theorem sized.ok : CtOk (mkCx Try.prog S [] 0) 62 sized.ct := ct_mk (C := (mkCx Try.prog S tab0 0)) (mkCx_ok sigOk mixed tab0_ok 0) sized.dec_ok (fun x => rfl) 4 (fun x _ => (sized.nf_ok x _).mpr (sized.key x _ rfl))
def tab_sized : List (FuncId × Ct El) := (62, sized.ct) :: tab_klimit
theorem tab_sized_ok : TabOk Try.prog S tab_sized := ⟨sized.ok, by kernel_rfl, tab_klimit_ok⟩

end Go.Aw.W
