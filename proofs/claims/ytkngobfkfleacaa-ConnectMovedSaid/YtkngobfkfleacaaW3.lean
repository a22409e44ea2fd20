/- Contracts of the seat (printed by ct.py). -/
import Derived.Test.YtkngobfkfleacaaW2
set_option linter.unusedVariables false
set_option linter.unusedSimpArgs false
set_option maxRecDepth 20000
set_option maxHeartbeats 1000000
namespace Go.Aw.W
open Go Go.Aw Go.Proofs
attribute [local irreducible] evCode evFun evOps evDs evOne ctxK loopK loopB subC bodyC headS okH roundK

/-! wireless/connect.First -/
def cFirst.res (r : Window) : AV El := Window.av (r)
def cFirst.news (r : Window) : List (AObj El) := []
def cFirst (p0 : Int) (u : Update) : Window := (⟨(IntKind.wrap IntKind.i64
  (cmoment p0 + IntKind.wrap IntKind.i64 (IntKind.wrap IntKind.i64 ((1 : Int) + (climited u).WinOffset) * (1250 : Int)))), (IntKind.wrap IntKind.i64
  (IntKind.wrap IntKind.i64
      (cmoment p0 +
        IntKind.wrap IntKind.i64 (IntKind.wrap IntKind.i64 ((1 : Int) + (climited u).WinOffset) * (1250 : Int))) +
    IntKind.wrap IntKind.i64 ((climited u).WinSize * (1250 : Int))))⟩ : Window)
def cFirst.dec (cs : List (AV El)) : Option (Int × Update) := popI .i64 cs fun a0 c0 => popA Update.dec c0 fun a1 c1 => popE c1 (a0, a1)
def cFirst.enc (x : Int × Update) : List (AV El) := [.v (.int .i64 x.1), Update.av x.2]
theorem cFirst.dec_ok : ∀ cs x, cFirst.dec cs = some x → Imp (S := S) cs (cFirst.enc x) := by
  intro cs x h
  unfold cFirst.dec at h
  obtain ⟨a0, c0, rfl, h0⟩ := popI_some (S := S) h
  obtain ⟨a1, c1, h1, k1⟩ := popA_some (S := S) Update.dec_ok h0
  obtain ⟨rfl, rfl⟩ := popE_some (S := S) h1
  exact (.cons (k1 _ (.refl _)))
def cFirst.nf (p0 : Int) (u : Update) (K : AV El → List (AObj El) → Prop) : Prop := K (.agg [.v (.int .i64 (IntKind.wrap IntKind.i64
  (cmoment p0 + IntKind.wrap IntKind.i64 (IntKind.wrap IntKind.i64 ((1 : Int) + (climited u).WinOffset) * (1250 : Int))))), .v (.int .i64 (IntKind.wrap IntKind.i64
  (IntKind.wrap IntKind.i64
      (cmoment p0 +
        IntKind.wrap IntKind.i64 (IntKind.wrap IntKind.i64 ((1 : Int) + (climited u).WinOffset) * (1250 : Int))) +
    IntKind.wrap IntKind.i64 ((climited u).WinSize * (1250 : Int)))))]) [.cells [.v (.int .i64 ((climited u).WinSize)), .v (.int .i64 ((climited u).WinOffset)), .v (.int .i64 ((climited u).Interval)), .v (.int .i64 ((climited u).Latency)), .v (.int .i64 ((climited u).Timeout))], .cells [.v (.int .i64 (IntKind.wrap IntKind.i64
  (cmoment p0 + IntKind.wrap IntKind.i64 (IntKind.wrap IntKind.i64 ((1 : Int) + (climited u).WinOffset) * (1250 : Int))))), .v (.int .i64 (IntKind.wrap IntKind.i64
  (IntKind.wrap IntKind.i64
      (cmoment p0 +
        IntKind.wrap IntKind.i64 (IntKind.wrap IntKind.i64 ((1 : Int) + (climited u).WinOffset) * (1250 : Int))) +
    IntKind.wrap IntKind.i64 ((climited u).WinSize * (1250 : Int)))))]]
theorem cFirst.nf_ok (p0 : Int) (u : Update) (K : AV El → List (AObj El) → Prop) : evFun (mkCx Try.prog S tab_kLocal 0) 4 21 [.v (.int .i64 p0), Update.av u] [] K = cFirst.nf p0 u K := by kernel_rfl
theorem cFirst.key (p0 : Int) (u : Update) (v : Window) (hv : v = cFirst p0 u) : cFirst.nf p0 u (fun r' H' => Gives r' H' (cFirst.res v) (cFirst.news v)) := by
  unfold cFirst at hv
  unfold cFirst.nf
  subst hv; exact And.intro (by kernel_rfl) (by kernel_rfl)
def cFirst.ct : Ct El := ctOf cFirst.dec (fun _ => []) (fun x => cFirst.res (cFirst x.1 x.2)) (fun x => cFirst.news (cFirst x.1 x.2))
theorem cFirst.ok : CtOk (mkCx Try.prog S [] 0) 21 cFirst.ct := ct_mk (C := (mkCx Try.prog S tab_kLocal 0)) (mkCx_ok sigOk mixed tab_kLocal_ok 0) cFirst.dec_ok (fun x => rfl) 4 (fun x _ => (cFirst.nf_ok x.1 x.2 _).mpr (cFirst.key x.1 x.2 _ rfl))
def tab_cFirst : List (FuncId × Ct El) := (21, cFirst.ct) :: tab_kLocal
theorem tab_cFirst_ok : TabOk Try.prog S tab_cFirst := ⟨cFirst.ok, by kernel_rfl, tab_kLocal_ok⟩

/-! wireless/wirelessref17.First -/
def r17First.res (r : Window) : AV El := Window.av (r)
def r17First.news (r : Window) : List (AObj El) := []
def r17First (p0 : Int) (u : Update) : Window := (⟨(IntKind.wrap IntKind.i64 (IntKind.wrap IntKind.i64 (r17place p0 + (1250 : Int)) + r17offset u)), (IntKind.wrap IntKind.i64
  (IntKind.wrap IntKind.i64 (IntKind.wrap IntKind.i64 (r17place p0 + (1250 : Int)) + r17offset u) + r17size u))⟩ : Window)
def r17First.dec (cs : List (AV El)) : Option (Int × Update) := popI .i64 cs fun a0 c0 => popA Update.dec c0 fun a1 c1 => popE c1 (a0, a1)
def r17First.enc (x : Int × Update) : List (AV El) := [.v (.int .i64 x.1), Update.av x.2]
theorem r17First.dec_ok : ∀ cs x, r17First.dec cs = some x → Imp (S := S) cs (r17First.enc x) := by
  intro cs x h
  unfold r17First.dec at h
  obtain ⟨a0, c0, rfl, h0⟩ := popI_some (S := S) h
  obtain ⟨a1, c1, h1, k1⟩ := popA_some (S := S) Update.dec_ok h0
  obtain ⟨rfl, rfl⟩ := popE_some (S := S) h1
  exact (.cons (k1 _ (.refl _)))
def r17First.nf (p0 : Int) (u : Update) (K : AV El → List (AObj El) → Prop) : Prop := K (.agg [.v (.int .i64 (IntKind.wrap IntKind.i64 (IntKind.wrap IntKind.i64 (r17place p0 + (1250 : Int)) + r17offset u))), .v (.int .i64 (IntKind.wrap IntKind.i64
  (IntKind.wrap IntKind.i64 (IntKind.wrap IntKind.i64 (r17place p0 + (1250 : Int)) + r17offset u) + r17size u)))]) [.cells [.v (.int .i64 (u.WinSize)), .v (.int .i64 (u.WinOffset)), .v (.int .i64 (u.Interval)), .v (.int .i64 (u.Latency)), .v (.int .i64 (u.Timeout))], .cells [.v (.int .i64 (IntKind.wrap IntKind.i64 (IntKind.wrap IntKind.i64 (r17place p0 + (1250 : Int)) + r17offset u))), .v (.int .i64 (IntKind.wrap IntKind.i64
  (IntKind.wrap IntKind.i64 (IntKind.wrap IntKind.i64 (r17place p0 + (1250 : Int)) + r17offset u) + r17size u)))]]
theorem r17First.nf_ok (p0 : Int) (u : Update) (K : AV El → List (AObj El) → Prop) : evFun (mkCx Try.prog S tab_kLocal 0) 4 22 [.v (.int .i64 p0), Update.av u] [] K = r17First.nf p0 u K := by kernel_rfl
theorem r17First.key (p0 : Int) (u : Update) (v : Window) (hv : v = r17First p0 u) : r17First.nf p0 u (fun r' H' => Gives r' H' (r17First.res v) (r17First.news v)) := by
  unfold r17First at hv
  unfold r17First.nf
  subst hv; exact And.intro (by kernel_rfl) (by kernel_rfl)
def r17First.ct : Ct El := ctOf r17First.dec (fun _ => []) (fun x => r17First.res (r17First x.1 x.2)) (fun x => r17First.news (r17First x.1 x.2))
theorem r17First.ok : CtOk (mkCx Try.prog S [] 0) 22 r17First.ct := ct_mk (C := (mkCx Try.prog S tab_kLocal 0)) (mkCx_ok sigOk mixed tab_kLocal_ok 0) r17First.dec_ok (fun x => rfl) 4 (fun x _ => (r17First.nf_ok x.1 x.2 _).mpr (r17First.key x.1 x.2 _ rfl))
def tab_r17First : List (FuncId × Ct El) := (22, r17First.ct) :: tab_cFirst
theorem tab_r17First_ok : TabOk Try.prog S tab_r17First := ⟨r17First.ok, by kernel_rfl, tab_cFirst_ok⟩

/-! wireless/connect.Anchor -/
def cAnchor.res (r : Int) : AV El := .v (.int .i64 (r))
def cAnchor.news (r : Int) : List (AObj El) := []
def cAnchor (anchor : Int) (u : Update) (n : Int) : Int := IntKind.wrap IntKind.i64
  (cmoment anchor +
    IntKind.wrap IntKind.i64
      (IntKind.wrap IntKind.i64 (climit n (0 : Int) (65536 : Int) * (climited u).Interval) * (1250 : Int)))
def cAnchor.dec (cs : List (AV El)) : Option (Int × Update × Int) := popI .i64 cs fun a0 c0 => popA Update.dec c0 fun a1 c1 => popI .i64 c1 fun a2 c2 => popE c2 (a0, a1, a2)
def cAnchor.enc (x : Int × Update × Int) : List (AV El) := [.v (.int .i64 x.1), Update.av x.2.1, .v (.int .i64 x.2.2)]
theorem cAnchor.dec_ok : ∀ cs x, cAnchor.dec cs = some x → Imp (S := S) cs (cAnchor.enc x) := by
  intro cs x h
  unfold cAnchor.dec at h
  obtain ⟨a0, c0, rfl, h0⟩ := popI_some (S := S) h
  obtain ⟨a1, c1, h1, k1⟩ := popA_some (S := S) Update.dec_ok h0
  obtain ⟨a2, c2, rfl, h2⟩ := popI_some (S := S) h1
  obtain ⟨rfl, rfl⟩ := popE_some (S := S) h2
  exact (.cons (k1 _ (.cons (.refl _))))
def cAnchor.nf (anchor : Int) (u : Update) (n : Int) (K : AV El → List (AObj El) → Prop) : Prop := K (.v (.int .i64 (IntKind.wrap IntKind.i64
  (cmoment anchor +
    IntKind.wrap IntKind.i64
      (IntKind.wrap IntKind.i64 (climit n (0 : Int) (65536 : Int) * (climited u).Interval) * (1250 : Int)))))) [.cells [.v (.int .i64 (u.WinSize)), .v (.int .i64 (u.WinOffset)), .v (.int .i64 (u.Interval)), .v (.int .i64 (u.Latency)), .v (.int .i64 (u.Timeout))]]
theorem cAnchor.nf_ok (anchor : Int) (u : Update) (n : Int) (K : AV El → List (AObj El) → Prop) : evFun (mkCx Try.prog S tab_kLocal 0) 4 23 [.v (.int .i64 anchor), Update.av u, .v (.int .i64 n)] [] K = cAnchor.nf anchor u n K := by kernel_rfl
theorem cAnchor.key (anchor : Int) (u : Update) (n : Int) (v : Int) (hv : v = cAnchor anchor u n) : cAnchor.nf anchor u n (fun r' H' => Gives r' H' (cAnchor.res v) (cAnchor.news v)) := by
  unfold cAnchor at hv
  unfold cAnchor.nf
  subst hv; exact And.intro (by kernel_rfl) (by kernel_rfl)
def cAnchor.ct : Ct El := ctOf cAnchor.dec (fun _ => []) (fun x => cAnchor.res (cAnchor x.1 x.2.1 x.2.2)) (fun x => cAnchor.news (cAnchor x.1 x.2.1 x.2.2))
theorem cAnchor.ok : CtOk (mkCx Try.prog S [] 0) 23 cAnchor.ct := ct_mk (C := (mkCx Try.prog S tab_kLocal 0)) (mkCx_ok sigOk mixed tab_kLocal_ok 0) cAnchor.dec_ok (fun x => rfl) 4 (fun x _ => (cAnchor.nf_ok x.1 x.2.1 x.2.2 _).mpr (cAnchor.key x.1 x.2.1 x.2.2 _ rfl))
def tab_cAnchor : List (FuncId × Ct El) := (23, cAnchor.ct) :: tab_r17First
theorem tab_cAnchor_ok : TabOk Try.prog S tab_cAnchor := ⟨cAnchor.ok, by kernel_rfl, tab_r17First_ok⟩

/-! wireless/wirelessref17.Anchor -/
def r17Anchor.res (r : Int) : AV El := .v (.int .i64 (r))
def r17Anchor.news (r : Int) : List (AObj El) := []
def r17Anchor (anchor : Int) (u : Update) (n : Int) : Int := IntKind.wrap IntKind.i64
  (r17place anchor + IntKind.wrap IntKind.i64 (r17limited n (0 : Int) (65536 : Int) * r17interval u))
def r17Anchor.dec (cs : List (AV El)) : Option (Int × Update × Int) := popI .i64 cs fun a0 c0 => popA Update.dec c0 fun a1 c1 => popI .i64 c1 fun a2 c2 => popE c2 (a0, a1, a2)
def r17Anchor.enc (x : Int × Update × Int) : List (AV El) := [.v (.int .i64 x.1), Update.av x.2.1, .v (.int .i64 x.2.2)]
theorem r17Anchor.dec_ok : ∀ cs x, r17Anchor.dec cs = some x → Imp (S := S) cs (r17Anchor.enc x) := by
  intro cs x h
  unfold r17Anchor.dec at h
  obtain ⟨a0, c0, rfl, h0⟩ := popI_some (S := S) h
  obtain ⟨a1, c1, h1, k1⟩ := popA_some (S := S) Update.dec_ok h0
  obtain ⟨a2, c2, rfl, h2⟩ := popI_some (S := S) h1
  obtain ⟨rfl, rfl⟩ := popE_some (S := S) h2
  exact (.cons (k1 _ (.cons (.refl _))))
def r17Anchor.nf (anchor : Int) (u : Update) (n : Int) (K : AV El → List (AObj El) → Prop) : Prop := K (.v (.int .i64 (IntKind.wrap IntKind.i64
  (r17place anchor + IntKind.wrap IntKind.i64 (r17limited n (0 : Int) (65536 : Int) * r17interval u))))) [.cells [.v (.int .i64 (u.WinSize)), .v (.int .i64 (u.WinOffset)), .v (.int .i64 (u.Interval)), .v (.int .i64 (u.Latency)), .v (.int .i64 (u.Timeout))]]
theorem r17Anchor.nf_ok (anchor : Int) (u : Update) (n : Int) (K : AV El → List (AObj El) → Prop) : evFun (mkCx Try.prog S tab_kLocal 0) 4 24 [.v (.int .i64 anchor), Update.av u, .v (.int .i64 n)] [] K = r17Anchor.nf anchor u n K := by kernel_rfl
theorem r17Anchor.key (anchor : Int) (u : Update) (n : Int) (v : Int) (hv : v = r17Anchor anchor u n) : r17Anchor.nf anchor u n (fun r' H' => Gives r' H' (r17Anchor.res v) (r17Anchor.news v)) := by
  unfold r17Anchor at hv
  unfold r17Anchor.nf
  subst hv; exact And.intro (by kernel_rfl) (by kernel_rfl)
def r17Anchor.ct : Ct El := ctOf r17Anchor.dec (fun _ => []) (fun x => r17Anchor.res (r17Anchor x.1 x.2.1 x.2.2)) (fun x => r17Anchor.news (r17Anchor x.1 x.2.1 x.2.2))
theorem r17Anchor.ok : CtOk (mkCx Try.prog S [] 0) 24 r17Anchor.ct := ct_mk (C := (mkCx Try.prog S tab_kLocal 0)) (mkCx_ok sigOk mixed tab_kLocal_ok 0) r17Anchor.dec_ok (fun x => rfl) 4 (fun x _ => (r17Anchor.nf_ok x.1 x.2.1 x.2.2 _).mpr (r17Anchor.key x.1 x.2.1 x.2.2 _ rfl))
def tab_r17Anchor : List (FuncId × Ct El) := (24, r17Anchor.ct) :: tab_cAnchor
theorem tab_r17Anchor_ok : TabOk Try.prog S tab_r17Anchor := ⟨r17Anchor.ok, by kernel_rfl, tab_cAnchor_ok⟩

/-! wireless/connect.Timeout -/
def cTimeout.res (r : Int) : AV El := .v (.int .i64 (r))
def cTimeout.news (r : Int) : List (AObj El) := []
def cTimeout (u : Update) : Int := IntKind.wrap IntKind.i64 ((climited u).Timeout * (10000 : Int))
def cTimeout.dec (cs : List (AV El)) : Option (Update) := popA Update.dec cs fun a0 c0 => popE c0 a0
def cTimeout.enc (x : Update) : List (AV El) := [Update.av x]
theorem cTimeout.dec_ok : ∀ cs x, cTimeout.dec cs = some x → Imp (S := S) cs (cTimeout.enc x) := by
  intro cs x h
  unfold cTimeout.dec at h
  obtain ⟨a0, c0, h0, k0⟩ := popA_some (S := S) Update.dec_ok h
  obtain ⟨rfl, rfl⟩ := popE_some (S := S) h0
  exact (k0 _ (.refl _))
def cTimeout.nf (u : Update) (K : AV El → List (AObj El) → Prop) : Prop := K (.v (.int .i64 (IntKind.wrap IntKind.i64 ((climited u).Timeout * (10000 : Int))))) [.cells [.v (.int .i64 (u.WinSize)), .v (.int .i64 (u.WinOffset)), .v (.int .i64 (u.Interval)), .v (.int .i64 (u.Latency)), .v (.int .i64 (u.Timeout))]]
theorem cTimeout.nf_ok (u : Update) (K : AV El → List (AObj El) → Prop) : evFun (mkCx Try.prog S tab_kLocal 0) 4 25 [Update.av u] [] K = cTimeout.nf u K := by kernel_rfl
theorem cTimeout.key (u : Update) (v : Int) (hv : v = cTimeout u) : cTimeout.nf u (fun r' H' => Gives r' H' (cTimeout.res v) (cTimeout.news v)) := by
  unfold cTimeout at hv
  unfold cTimeout.nf
  subst hv; exact And.intro (by kernel_rfl) (by kernel_rfl)
def cTimeout.ct : Ct El := ctOf cTimeout.dec (fun _ => []) (fun x => cTimeout.res (cTimeout x)) (fun x => cTimeout.news (cTimeout x))
theorem cTimeout.ok : CtOk (mkCx Try.prog S [] 0) 25 cTimeout.ct := ct_mk (C := (mkCx Try.prog S tab_kLocal 0)) (mkCx_ok sigOk mixed tab_kLocal_ok 0) cTimeout.dec_ok (fun x => rfl) 4 (fun x _ => (cTimeout.nf_ok x _).mpr (cTimeout.key x _ rfl))
def tab_cTimeout : List (FuncId × Ct El) := (25, cTimeout.ct) :: tab_r17Anchor
theorem tab_cTimeout_ok : TabOk Try.prog S tab_cTimeout := ⟨cTimeout.ok, by kernel_rfl, tab_r17Anchor_ok⟩

/-! wireless/wirelessref17.Timeout -/
def r17Timeout.res (r : Int) : AV El := .v (.int .i64 (r))
def r17Timeout.news (r : Int) : List (AObj El) := []
def r17Timeout (u : Update) : Int := IntKind.wrap IntKind.i64 (r17limited u.Timeout (10 : Int) (3200 : Int) * (10000 : Int))
def r17Timeout.dec (cs : List (AV El)) : Option (Update) := popA Update.dec cs fun a0 c0 => popE c0 a0
def r17Timeout.enc (x : Update) : List (AV El) := [Update.av x]
theorem r17Timeout.dec_ok : ∀ cs x, r17Timeout.dec cs = some x → Imp (S := S) cs (r17Timeout.enc x) := by
  intro cs x h
  unfold r17Timeout.dec at h
  obtain ⟨a0, c0, h0, k0⟩ := popA_some (S := S) Update.dec_ok h
  obtain ⟨rfl, rfl⟩ := popE_some (S := S) h0
  exact (k0 _ (.refl _))
def r17Timeout.nf (u : Update) (K : AV El → List (AObj El) → Prop) : Prop := K (.v (.int .i64 (IntKind.wrap IntKind.i64 (r17limited u.Timeout (10 : Int) (3200 : Int) * (10000 : Int))))) [.cells [.v (.int .i64 (u.WinSize)), .v (.int .i64 (u.WinOffset)), .v (.int .i64 (u.Interval)), .v (.int .i64 (u.Latency)), .v (.int .i64 (u.Timeout))]]
theorem r17Timeout.nf_ok (u : Update) (K : AV El → List (AObj El) → Prop) : evFun (mkCx Try.prog S tab_kLocal 0) 4 26 [Update.av u] [] K = r17Timeout.nf u K := by kernel_rfl
theorem r17Timeout.key (u : Update) (v : Int) (hv : v = r17Timeout u) : r17Timeout.nf u (fun r' H' => Gives r' H' (r17Timeout.res v) (r17Timeout.news v)) := by
  unfold r17Timeout at hv
  unfold r17Timeout.nf
  subst hv; exact And.intro (by kernel_rfl) (by kernel_rfl)
def r17Timeout.ct : Ct El := ctOf r17Timeout.dec (fun _ => []) (fun x => r17Timeout.res (r17Timeout x)) (fun x => r17Timeout.news (r17Timeout x))
theorem r17Timeout.ok : CtOk (mkCx Try.prog S [] 0) 26 r17Timeout.ct := ct_mk (C := (mkCx Try.prog S tab_kLocal 0)) (mkCx_ok sigOk mixed tab_kLocal_ok 0) r17Timeout.dec_ok (fun x => rfl) 4 (fun x _ => (r17Timeout.nf_ok x _).mpr (r17Timeout.key x _ rfl))
def tab_r17Timeout : List (FuncId × Ct El) := (26, r17Timeout.ct) :: tab_cTimeout
theorem tab_r17Timeout_ok : TabOk Try.prog S tab_r17Timeout := ⟨r17Timeout.ok, by kernel_rfl, tab_cTimeout_ok⟩

/-! wireless/connect.Expect -/
def cExpect.res (r : Window) : AV El := Window.av (r)
def cExpect.news (r : Window) : List (AObj El) := []
def cExpect (anchor : Int) (n : Int) (u : Update) (ppm : Int) : Window := (⟨(IntKind.wrap IntKind.i64
  (IntKind.wrap IntKind.i64
      (cmoment anchor +
        IntKind.wrap IntKind.i64
          (IntKind.wrap IntKind.i64 (climit n (1 : Int) (65536 : Int) * (climited u).Interval) * (1250 : Int))) -
    kWidening ppm
      (IntKind.wrap IntKind.i64
        (IntKind.wrap IntKind.i64 (climit n (1 : Int) (65536 : Int) * (climited u).Interval) * (1250 : Int))))), (IntKind.wrap IntKind.i64
  (IntKind.wrap IntKind.i64
      (cmoment anchor +
        IntKind.wrap IntKind.i64
          (IntKind.wrap IntKind.i64 (climit n (1 : Int) (65536 : Int) * (climited u).Interval) * (1250 : Int))) +
    kWidening ppm
      (IntKind.wrap IntKind.i64
        (IntKind.wrap IntKind.i64 (climit n (1 : Int) (65536 : Int) * (climited u).Interval) * (1250 : Int)))))⟩ : Window)
def cExpect.dec (cs : List (AV El)) : Option (Int × Int × Update × Int) := popI .i64 cs fun a0 c0 => popI .i64 c0 fun a1 c1 => popA Update.dec c1 fun a2 c2 => popI .i64 c2 fun a3 c3 => popE c3 (a0, a1, a2, a3)
def cExpect.enc (x : Int × Int × Update × Int) : List (AV El) := [.v (.int .i64 x.1), .v (.int .i64 x.2.1), Update.av x.2.2.1, .v (.int .i64 x.2.2.2)]
theorem cExpect.dec_ok : ∀ cs x, cExpect.dec cs = some x → Imp (S := S) cs (cExpect.enc x) := by
  intro cs x h
  unfold cExpect.dec at h
  obtain ⟨a0, c0, rfl, h0⟩ := popI_some (S := S) h
  obtain ⟨a1, c1, rfl, h1⟩ := popI_some (S := S) h0
  obtain ⟨a2, c2, h2, k2⟩ := popA_some (S := S) Update.dec_ok h1
  obtain ⟨a3, c3, rfl, h3⟩ := popI_some (S := S) h2
  obtain ⟨rfl, rfl⟩ := popE_some (S := S) h3
  exact (.cons (.cons (k2 _ (.cons (.refl _)))))
def cExpect.nf (anchor : Int) (n : Int) (u : Update) (ppm : Int) (K : AV El → List (AObj El) → Prop) : Prop := K (.agg [.v (.int .i64 (IntKind.wrap IntKind.i64
  (IntKind.wrap IntKind.i64
      (cmoment anchor +
        IntKind.wrap IntKind.i64
          (IntKind.wrap IntKind.i64 (climit n (1 : Int) (65536 : Int) * (climited u).Interval) * (1250 : Int))) -
    kWidening ppm
      (IntKind.wrap IntKind.i64
        (IntKind.wrap IntKind.i64 (climit n (1 : Int) (65536 : Int) * (climited u).Interval) * (1250 : Int)))))), .v (.int .i64 (IntKind.wrap IntKind.i64
  (IntKind.wrap IntKind.i64
      (cmoment anchor +
        IntKind.wrap IntKind.i64
          (IntKind.wrap IntKind.i64 (climit n (1 : Int) (65536 : Int) * (climited u).Interval) * (1250 : Int))) +
    kWidening ppm
      (IntKind.wrap IntKind.i64
        (IntKind.wrap IntKind.i64 (climit n (1 : Int) (65536 : Int) * (climited u).Interval) * (1250 : Int))))))]) [.cells [.v (.int .i64 (u.WinSize)), .v (.int .i64 (u.WinOffset)), .v (.int .i64 (u.Interval)), .v (.int .i64 (u.Latency)), .v (.int .i64 (u.Timeout))], .cells [.v (.int .i64 (IntKind.wrap IntKind.i64
  (IntKind.wrap IntKind.i64
      (cmoment anchor +
        IntKind.wrap IntKind.i64
          (IntKind.wrap IntKind.i64 (climit n (1 : Int) (65536 : Int) * (climited u).Interval) * (1250 : Int))) -
    kWidening ppm
      (IntKind.wrap IntKind.i64
        (IntKind.wrap IntKind.i64 (climit n (1 : Int) (65536 : Int) * (climited u).Interval) * (1250 : Int)))))), .v (.int .i64 (IntKind.wrap IntKind.i64
  (IntKind.wrap IntKind.i64
      (cmoment anchor +
        IntKind.wrap IntKind.i64
          (IntKind.wrap IntKind.i64 (climit n (1 : Int) (65536 : Int) * (climited u).Interval) * (1250 : Int))) +
    kWidening ppm
      (IntKind.wrap IntKind.i64
        (IntKind.wrap IntKind.i64 (climit n (1 : Int) (65536 : Int) * (climited u).Interval) * (1250 : Int))))))]]
theorem cExpect.nf_ok (anchor : Int) (n : Int) (u : Update) (ppm : Int) (K : AV El → List (AObj El) → Prop) : evFun (mkCx Try.prog S tab_kLocal 0) 4 27 [.v (.int .i64 anchor), .v (.int .i64 n), Update.av u, .v (.int .i64 ppm)] [] K = cExpect.nf anchor n u ppm K := by kernel_rfl
theorem cExpect.key (anchor : Int) (n : Int) (u : Update) (ppm : Int) (v : Window) (hv : v = cExpect anchor n u ppm) : cExpect.nf anchor n u ppm (fun r' H' => Gives r' H' (cExpect.res v) (cExpect.news v)) := by
  unfold cExpect at hv
  unfold cExpect.nf
  subst hv; exact And.intro (by kernel_rfl) (by kernel_rfl)
def cExpect.ct : Ct El := ctOf cExpect.dec (fun _ => []) (fun x => cExpect.res (cExpect x.1 x.2.1 x.2.2.1 x.2.2.2)) (fun x => cExpect.news (cExpect x.1 x.2.1 x.2.2.1 x.2.2.2))
theorem cExpect.ok : CtOk (mkCx Try.prog S [] 0) 27 cExpect.ct := ct_mk (C := (mkCx Try.prog S tab_kLocal 0)) (mkCx_ok sigOk mixed tab_kLocal_ok 0) cExpect.dec_ok (fun x => rfl) 4 (fun x _ => (cExpect.nf_ok x.1 x.2.1 x.2.2.1 x.2.2.2 _).mpr (cExpect.key x.1 x.2.1 x.2.2.1 x.2.2.2 _ rfl))
def tab_cExpect : List (FuncId × Ct El) := (27, cExpect.ct) :: tab_r17Timeout
theorem tab_cExpect_ok : TabOk Try.prog S tab_cExpect := ⟨cExpect.ok, by kernel_rfl, tab_r17Timeout_ok⟩

/-! wireless/wirelessref17.Expect -/
def r17Expect.res (r : Window) : AV El := Window.av (r)
def r17Expect.news (r : Window) : List (AObj El) := []
def r17Expect (anchor : Int) (n : Int) (u : Update) (ppm : Int) : Window := (⟨(IntKind.wrap IntKind.i64
  (IntKind.wrap IntKind.i64
      (r17place anchor + IntKind.wrap IntKind.i64 (r17limited n (1 : Int) (65536 : Int) * r17interval u)) -
    r11Widening ppm (IntKind.wrap IntKind.i64 (r17limited n (1 : Int) (65536 : Int) * r17interval u)))), (IntKind.wrap IntKind.i64
  (IntKind.wrap IntKind.i64
      (r17place anchor + IntKind.wrap IntKind.i64 (r17limited n (1 : Int) (65536 : Int) * r17interval u)) +
    r11Widening ppm (IntKind.wrap IntKind.i64 (r17limited n (1 : Int) (65536 : Int) * r17interval u))))⟩ : Window)
def r17Expect.dec (cs : List (AV El)) : Option (Int × Int × Update × Int) := popI .i64 cs fun a0 c0 => popI .i64 c0 fun a1 c1 => popA Update.dec c1 fun a2 c2 => popI .i64 c2 fun a3 c3 => popE c3 (a0, a1, a2, a3)
def r17Expect.enc (x : Int × Int × Update × Int) : List (AV El) := [.v (.int .i64 x.1), .v (.int .i64 x.2.1), Update.av x.2.2.1, .v (.int .i64 x.2.2.2)]
theorem r17Expect.dec_ok : ∀ cs x, r17Expect.dec cs = some x → Imp (S := S) cs (r17Expect.enc x) := by
  intro cs x h
  unfold r17Expect.dec at h
  obtain ⟨a0, c0, rfl, h0⟩ := popI_some (S := S) h
  obtain ⟨a1, c1, rfl, h1⟩ := popI_some (S := S) h0
  obtain ⟨a2, c2, h2, k2⟩ := popA_some (S := S) Update.dec_ok h1
  obtain ⟨a3, c3, rfl, h3⟩ := popI_some (S := S) h2
  obtain ⟨rfl, rfl⟩ := popE_some (S := S) h3
  exact (.cons (.cons (k2 _ (.cons (.refl _)))))
def r17Expect.nf (anchor : Int) (n : Int) (u : Update) (ppm : Int) (K : AV El → List (AObj El) → Prop) : Prop := K (.agg [.v (.int .i64 (IntKind.wrap IntKind.i64
  (IntKind.wrap IntKind.i64
      (r17place anchor + IntKind.wrap IntKind.i64 (r17limited n (1 : Int) (65536 : Int) * r17interval u)) -
    r11Widening ppm (IntKind.wrap IntKind.i64 (r17limited n (1 : Int) (65536 : Int) * r17interval u))))), .v (.int .i64 (IntKind.wrap IntKind.i64
  (IntKind.wrap IntKind.i64
      (r17place anchor + IntKind.wrap IntKind.i64 (r17limited n (1 : Int) (65536 : Int) * r17interval u)) +
    r11Widening ppm (IntKind.wrap IntKind.i64 (r17limited n (1 : Int) (65536 : Int) * r17interval u)))))]) [.cells [.v (.int .i64 (u.WinSize)), .v (.int .i64 (u.WinOffset)), .v (.int .i64 (u.Interval)), .v (.int .i64 (u.Latency)), .v (.int .i64 (u.Timeout))], .cells [.v (.int .i64 (IntKind.wrap IntKind.i64
  (IntKind.wrap IntKind.i64
      (r17place anchor + IntKind.wrap IntKind.i64 (r17limited n (1 : Int) (65536 : Int) * r17interval u)) -
    r11Widening ppm (IntKind.wrap IntKind.i64 (r17limited n (1 : Int) (65536 : Int) * r17interval u))))), .v (.int .i64 (IntKind.wrap IntKind.i64
  (IntKind.wrap IntKind.i64
      (r17place anchor + IntKind.wrap IntKind.i64 (r17limited n (1 : Int) (65536 : Int) * r17interval u)) +
    r11Widening ppm (IntKind.wrap IntKind.i64 (r17limited n (1 : Int) (65536 : Int) * r17interval u)))))]]
theorem r17Expect.nf_ok (anchor : Int) (n : Int) (u : Update) (ppm : Int) (K : AV El → List (AObj El) → Prop) : evFun (mkCx Try.prog S tab_kLocal 0) 4 28 [.v (.int .i64 anchor), .v (.int .i64 n), Update.av u, .v (.int .i64 ppm)] [] K = r17Expect.nf anchor n u ppm K := by kernel_rfl
theorem r17Expect.key (anchor : Int) (n : Int) (u : Update) (ppm : Int) (v : Window) (hv : v = r17Expect anchor n u ppm) : r17Expect.nf anchor n u ppm (fun r' H' => Gives r' H' (r17Expect.res v) (r17Expect.news v)) := by
  unfold r17Expect at hv
  unfold r17Expect.nf
  subst hv; exact And.intro (by kernel_rfl) (by kernel_rfl)
def r17Expect.ct : Ct El := ctOf r17Expect.dec (fun _ => []) (fun x => r17Expect.res (r17Expect x.1 x.2.1 x.2.2.1 x.2.2.2)) (fun x => r17Expect.news (r17Expect x.1 x.2.1 x.2.2.1 x.2.2.2))
theorem r17Expect.ok : CtOk (mkCx Try.prog S [] 0) 28 r17Expect.ct := ct_mk (C := (mkCx Try.prog S tab_kLocal 0)) (mkCx_ok sigOk mixed tab_kLocal_ok 0) r17Expect.dec_ok (fun x => rfl) 4 (fun x _ => (r17Expect.nf_ok x.1 x.2.1 x.2.2.1 x.2.2.2 _).mpr (r17Expect.key x.1 x.2.1 x.2.2.1 x.2.2.2 _ rfl))
def tab_r17Expect : List (FuncId × Ct El) := (28, r17Expect.ct) :: tab_cExpect
theorem tab_r17Expect_ok : TabOk Try.prog S tab_r17Expect := ⟨r17Expect.ok, by kernel_rfl, tab_cExpect_ok⟩

/-! wireless/connect.Moved -/
def cMoved.res (r : Window) : AV El := Window.av (r)
def cMoved.news (r : Window) : List (AObj El) := []
def cMoved (anchor : Int) (n : Int) (was : Update) (now : Update) (ppm : Int) : Window := (⟨(IntKind.wrap IntKind.i64
  (IntKind.wrap IntKind.i64
      (cmoment anchor +
        IntKind.wrap IntKind.i64
          (IntKind.wrap IntKind.i64
              (IntKind.wrap IntKind.i64 (climit n (1 : Int) (65536 : Int) * (climited was).Interval) * (1250 : Int)) +
            IntKind.wrap IntKind.i64 ((climited now).WinOffset * (1250 : Int)))) -
    kWidening ppm
      (IntKind.wrap IntKind.i64
        (IntKind.wrap IntKind.i64
            (IntKind.wrap IntKind.i64
                (IntKind.wrap IntKind.i64 (climit n (1 : Int) (65536 : Int) * (climited was).Interval) * (1250 : Int)) +
              IntKind.wrap IntKind.i64 ((climited now).WinOffset * (1250 : Int))) +
          IntKind.wrap IntKind.i64 ((climited now).WinSize * (1250 : Int)))))), (IntKind.wrap IntKind.i64
  (IntKind.wrap IntKind.i64
      (IntKind.wrap IntKind.i64
          (cmoment anchor +
            IntKind.wrap IntKind.i64
              (IntKind.wrap IntKind.i64
                  (IntKind.wrap IntKind.i64 (climit n (1 : Int) (65536 : Int) * (climited was).Interval) *
                    (1250 : Int)) +
                IntKind.wrap IntKind.i64 ((climited now).WinOffset * (1250 : Int)))) +
        IntKind.wrap IntKind.i64 ((climited now).WinSize * (1250 : Int))) +
    kWidening ppm
      (IntKind.wrap IntKind.i64
        (IntKind.wrap IntKind.i64
            (IntKind.wrap IntKind.i64
                (IntKind.wrap IntKind.i64 (climit n (1 : Int) (65536 : Int) * (climited was).Interval) * (1250 : Int)) +
              IntKind.wrap IntKind.i64 ((climited now).WinOffset * (1250 : Int))) +
          IntKind.wrap IntKind.i64 ((climited now).WinSize * (1250 : Int))))))⟩ : Window)
def cMoved.dec (cs : List (AV El)) : Option (Int × Int × Update × Update × Int) := popI .i64 cs fun a0 c0 => popI .i64 c0 fun a1 c1 => popA Update.dec c1 fun a2 c2 => popA Update.dec c2 fun a3 c3 => popI .i64 c3 fun a4 c4 => popE c4 (a0, a1, a2, a3, a4)
def cMoved.enc (x : Int × Int × Update × Update × Int) : List (AV El) := [.v (.int .i64 x.1), .v (.int .i64 x.2.1), Update.av x.2.2.1, Update.av x.2.2.2.1, .v (.int .i64 x.2.2.2.2)]
theorem cMoved.dec_ok : ∀ cs x, cMoved.dec cs = some x → Imp (S := S) cs (cMoved.enc x) := by
  intro cs x h
  unfold cMoved.dec at h
  obtain ⟨a0, c0, rfl, h0⟩ := popI_some (S := S) h
  obtain ⟨a1, c1, rfl, h1⟩ := popI_some (S := S) h0
  obtain ⟨a2, c2, h2, k2⟩ := popA_some (S := S) Update.dec_ok h1
  obtain ⟨a3, c3, h3, k3⟩ := popA_some (S := S) Update.dec_ok h2
  obtain ⟨a4, c4, rfl, h4⟩ := popI_some (S := S) h3
  obtain ⟨rfl, rfl⟩ := popE_some (S := S) h4
  exact (.cons (.cons (k2 _ (k3 _ (.cons (.refl _))))))
def cMoved.nf (anchor : Int) (n : Int) (was : Update) (now : Update) (ppm : Int) (K : AV El → List (AObj El) → Prop) : Prop := K (.agg [.v (.int .i64 (IntKind.wrap IntKind.i64
  (IntKind.wrap IntKind.i64
      (cmoment anchor +
        IntKind.wrap IntKind.i64
          (IntKind.wrap IntKind.i64
              (IntKind.wrap IntKind.i64 (climit n (1 : Int) (65536 : Int) * (climited was).Interval) * (1250 : Int)) +
            IntKind.wrap IntKind.i64 ((climited now).WinOffset * (1250 : Int)))) -
    kWidening ppm
      (IntKind.wrap IntKind.i64
        (IntKind.wrap IntKind.i64
            (IntKind.wrap IntKind.i64
                (IntKind.wrap IntKind.i64 (climit n (1 : Int) (65536 : Int) * (climited was).Interval) * (1250 : Int)) +
              IntKind.wrap IntKind.i64 ((climited now).WinOffset * (1250 : Int))) +
          IntKind.wrap IntKind.i64 ((climited now).WinSize * (1250 : Int))))))), .v (.int .i64 (IntKind.wrap IntKind.i64
  (IntKind.wrap IntKind.i64
      (IntKind.wrap IntKind.i64
          (cmoment anchor +
            IntKind.wrap IntKind.i64
              (IntKind.wrap IntKind.i64
                  (IntKind.wrap IntKind.i64 (climit n (1 : Int) (65536 : Int) * (climited was).Interval) *
                    (1250 : Int)) +
                IntKind.wrap IntKind.i64 ((climited now).WinOffset * (1250 : Int)))) +
        IntKind.wrap IntKind.i64 ((climited now).WinSize * (1250 : Int))) +
    kWidening ppm
      (IntKind.wrap IntKind.i64
        (IntKind.wrap IntKind.i64
            (IntKind.wrap IntKind.i64
                (IntKind.wrap IntKind.i64 (climit n (1 : Int) (65536 : Int) * (climited was).Interval) * (1250 : Int)) +
              IntKind.wrap IntKind.i64 ((climited now).WinOffset * (1250 : Int))) +
          IntKind.wrap IntKind.i64 ((climited now).WinSize * (1250 : Int)))))))]) [.cells [.v (.int .i64 (was.WinSize)), .v (.int .i64 (was.WinOffset)), .v (.int .i64 (was.Interval)), .v (.int .i64 (was.Latency)), .v (.int .i64 (was.Timeout))], .cells [.v (.int .i64 ((climited now).WinSize)), .v (.int .i64 ((climited now).WinOffset)), .v (.int .i64 ((climited now).Interval)), .v (.int .i64 ((climited now).Latency)), .v (.int .i64 ((climited now).Timeout))], .cells [.v (.int .i64 (IntKind.wrap IntKind.i64
  (IntKind.wrap IntKind.i64
      (cmoment anchor +
        IntKind.wrap IntKind.i64
          (IntKind.wrap IntKind.i64
              (IntKind.wrap IntKind.i64 (climit n (1 : Int) (65536 : Int) * (climited was).Interval) * (1250 : Int)) +
            IntKind.wrap IntKind.i64 ((climited now).WinOffset * (1250 : Int)))) -
    kWidening ppm
      (IntKind.wrap IntKind.i64
        (IntKind.wrap IntKind.i64
            (IntKind.wrap IntKind.i64
                (IntKind.wrap IntKind.i64 (climit n (1 : Int) (65536 : Int) * (climited was).Interval) * (1250 : Int)) +
              IntKind.wrap IntKind.i64 ((climited now).WinOffset * (1250 : Int))) +
          IntKind.wrap IntKind.i64 ((climited now).WinSize * (1250 : Int))))))), .v (.int .i64 (IntKind.wrap IntKind.i64
  (IntKind.wrap IntKind.i64
      (IntKind.wrap IntKind.i64
          (cmoment anchor +
            IntKind.wrap IntKind.i64
              (IntKind.wrap IntKind.i64
                  (IntKind.wrap IntKind.i64 (climit n (1 : Int) (65536 : Int) * (climited was).Interval) *
                    (1250 : Int)) +
                IntKind.wrap IntKind.i64 ((climited now).WinOffset * (1250 : Int)))) +
        IntKind.wrap IntKind.i64 ((climited now).WinSize * (1250 : Int))) +
    kWidening ppm
      (IntKind.wrap IntKind.i64
        (IntKind.wrap IntKind.i64
            (IntKind.wrap IntKind.i64
                (IntKind.wrap IntKind.i64 (climit n (1 : Int) (65536 : Int) * (climited was).Interval) * (1250 : Int)) +
              IntKind.wrap IntKind.i64 ((climited now).WinOffset * (1250 : Int))) +
          IntKind.wrap IntKind.i64 ((climited now).WinSize * (1250 : Int)))))))]]
theorem cMoved.nf_ok (anchor : Int) (n : Int) (was : Update) (now : Update) (ppm : Int) (K : AV El → List (AObj El) → Prop) : evFun (mkCx Try.prog S tab_kLocal 0) 4 29 [.v (.int .i64 anchor), .v (.int .i64 n), Update.av was, Update.av now, .v (.int .i64 ppm)] [] K = cMoved.nf anchor n was now ppm K := by kernel_rfl
theorem cMoved.key (anchor : Int) (n : Int) (was : Update) (now : Update) (ppm : Int) (v : Window) (hv : v = cMoved anchor n was now ppm) : cMoved.nf anchor n was now ppm (fun r' H' => Gives r' H' (cMoved.res v) (cMoved.news v)) := by
  unfold cMoved at hv
  unfold cMoved.nf
  subst hv; exact And.intro (by kernel_rfl) (by kernel_rfl)
def cMoved.ct : Ct El := ctOf cMoved.dec (fun _ => []) (fun x => cMoved.res (cMoved x.1 x.2.1 x.2.2.1 x.2.2.2.1 x.2.2.2.2)) (fun x => cMoved.news (cMoved x.1 x.2.1 x.2.2.1 x.2.2.2.1 x.2.2.2.2))
theorem cMoved.ok : CtOk (mkCx Try.prog S [] 0) 29 cMoved.ct := ct_mk (C := (mkCx Try.prog S tab_kLocal 0)) (mkCx_ok sigOk mixed tab_kLocal_ok 0) cMoved.dec_ok (fun x => rfl) 4 (fun x _ => (cMoved.nf_ok x.1 x.2.1 x.2.2.1 x.2.2.2.1 x.2.2.2.2 _).mpr (cMoved.key x.1 x.2.1 x.2.2.1 x.2.2.2.1 x.2.2.2.2 _ rfl))
def tab_cMoved : List (FuncId × Ct El) := (29, cMoved.ct) :: tab_r17Expect
theorem tab_cMoved_ok : TabOk Try.prog S tab_cMoved := ⟨cMoved.ok, by kernel_rfl, tab_r17Expect_ok⟩

/-! wireless/wirelessref17.Due -/
def r17Due.res (r : Int × Int) : AV El := .tup [.v (.int .i64 (r.1)), .v (.int .i64 (r.2))]
def r17Due.news (r : Int × Int) : List (AObj El) := []
def r17Due (n : Int) (was : Update) (now : Update) : Int × Int := (IntKind.wrap IntKind.i64
  (IntKind.wrap IntKind.i64 (r17limited n (1 : Int) (65536 : Int) * r17interval was) + r17offset now), r17size now)
def r17Due.dec (cs : List (AV El)) : Option (Int × Update × Update) := popI .i64 cs fun a0 c0 => popA Update.dec c0 fun a1 c1 => popA Update.dec c1 fun a2 c2 => popE c2 (a0, a1, a2)
def r17Due.enc (x : Int × Update × Update) : List (AV El) := [.v (.int .i64 x.1), Update.av x.2.1, Update.av x.2.2]
theorem r17Due.dec_ok : ∀ cs x, r17Due.dec cs = some x → Imp (S := S) cs (r17Due.enc x) := by
  intro cs x h
  unfold r17Due.dec at h
  obtain ⟨a0, c0, rfl, h0⟩ := popI_some (S := S) h
  obtain ⟨a1, c1, h1, k1⟩ := popA_some (S := S) Update.dec_ok h0
  obtain ⟨a2, c2, h2, k2⟩ := popA_some (S := S) Update.dec_ok h1
  obtain ⟨rfl, rfl⟩ := popE_some (S := S) h2
  exact (.cons (k1 _ (k2 _ (.refl _))))
def r17Due.nf (n : Int) (was : Update) (now : Update) (K : AV El → List (AObj El) → Prop) : Prop := K (.tup [.v (.int .i64 (IntKind.wrap IntKind.i64
  (IntKind.wrap IntKind.i64 (r17limited n (1 : Int) (65536 : Int) * r17interval was) + r17offset now))), .v (.int .i64 (r17size now))]) [.cells [.v (.int .i64 (was.WinSize)), .v (.int .i64 (was.WinOffset)), .v (.int .i64 (was.Interval)), .v (.int .i64 (was.Latency)), .v (.int .i64 (was.Timeout))], .cells [.v (.int .i64 (now.WinSize)), .v (.int .i64 (now.WinOffset)), .v (.int .i64 (now.Interval)), .v (.int .i64 (now.Latency)), .v (.int .i64 (now.Timeout))]]
theorem r17Due.nf_ok (n : Int) (was : Update) (now : Update) (K : AV El → List (AObj El) → Prop) : evFun (mkCx Try.prog S tab_cMoved 0) 4 35 [.v (.int .i64 n), Update.av was, Update.av now] [] K = r17Due.nf n was now K := by kernel_rfl
theorem r17Due.key (n : Int) (was : Update) (now : Update) (v : Int × Int) (hv : v = r17Due n was now) : r17Due.nf n was now (fun r' H' => Gives r' H' (r17Due.res v) (r17Due.news v)) := by
  unfold r17Due at hv
  unfold r17Due.nf
  subst hv; exact And.intro (by kernel_rfl) (by kernel_rfl)
def r17Due.ct : Ct El := ctOf r17Due.dec (fun _ => []) (fun x => r17Due.res (r17Due x.1 x.2.1 x.2.2)) (fun x => r17Due.news (r17Due x.1 x.2.1 x.2.2))
theorem r17Due.ok : CtOk (mkCx Try.prog S [] 0) 35 r17Due.ct := ct_mk (C := (mkCx Try.prog S tab_cMoved 0)) (mkCx_ok sigOk mixed tab_cMoved_ok 0) r17Due.dec_ok (fun x => rfl) 4 (fun x _ => (r17Due.nf_ok x.1 x.2.1 x.2.2 _).mpr (r17Due.key x.1 x.2.1 x.2.2 _ rfl))
def tab_r17Due : List (FuncId × Ct El) := (35, r17Due.ct) :: tab_cMoved
theorem tab_r17Due_ok : TabOk Try.prog S tab_r17Due := ⟨r17Due.ok, by kernel_rfl, tab_cMoved_ok⟩

/-! wireless/wirelessref17.Moved -/
def r17Moved.res (r : Window) : AV El := Window.av (r)
def r17Moved.news (r : Window) : List (AObj El) := []
def r17Moved (anchor : Int) (n : Int) (was : Update) (now : Update) (ppm : Int) : Window := (⟨(IntKind.wrap IntKind.i64
  (IntKind.wrap IntKind.i64 (r17place anchor + (r17Due n was now).fst) -
    r11Widening ppm (IntKind.wrap IntKind.i64 ((r17Due n was now).fst + (r17Due n was now).snd)))), (IntKind.wrap IntKind.i64
  (IntKind.wrap IntKind.i64
      (IntKind.wrap IntKind.i64 (r17place anchor + (r17Due n was now).fst) + (r17Due n was now).snd) +
    r11Widening ppm (IntKind.wrap IntKind.i64 ((r17Due n was now).fst + (r17Due n was now).snd))))⟩ : Window)
def r17Moved.dec (cs : List (AV El)) : Option (Int × Int × Update × Update × Int) := popI .i64 cs fun a0 c0 => popI .i64 c0 fun a1 c1 => popA Update.dec c1 fun a2 c2 => popA Update.dec c2 fun a3 c3 => popI .i64 c3 fun a4 c4 => popE c4 (a0, a1, a2, a3, a4)
def r17Moved.enc (x : Int × Int × Update × Update × Int) : List (AV El) := [.v (.int .i64 x.1), .v (.int .i64 x.2.1), Update.av x.2.2.1, Update.av x.2.2.2.1, .v (.int .i64 x.2.2.2.2)]
theorem r17Moved.dec_ok : ∀ cs x, r17Moved.dec cs = some x → Imp (S := S) cs (r17Moved.enc x) := by
  intro cs x h
  unfold r17Moved.dec at h
  obtain ⟨a0, c0, rfl, h0⟩ := popI_some (S := S) h
  obtain ⟨a1, c1, rfl, h1⟩ := popI_some (S := S) h0
  obtain ⟨a2, c2, h2, k2⟩ := popA_some (S := S) Update.dec_ok h1
  obtain ⟨a3, c3, h3, k3⟩ := popA_some (S := S) Update.dec_ok h2
  obtain ⟨a4, c4, rfl, h4⟩ := popI_some (S := S) h3
  obtain ⟨rfl, rfl⟩ := popE_some (S := S) h4
  exact (.cons (.cons (k2 _ (k3 _ (.cons (.refl _))))))
def r17Moved.nf (anchor : Int) (n : Int) (was : Update) (now : Update) (ppm : Int) (K : AV El → List (AObj El) → Prop) : Prop := K (.agg [.v (.int .i64 (IntKind.wrap IntKind.i64
  (IntKind.wrap IntKind.i64 (r17place anchor + (r17Due n was now).fst) -
    r11Widening ppm (IntKind.wrap IntKind.i64 ((r17Due n was now).fst + (r17Due n was now).snd))))), .v (.int .i64 (IntKind.wrap IntKind.i64
  (IntKind.wrap IntKind.i64
      (IntKind.wrap IntKind.i64 (r17place anchor + (r17Due n was now).fst) + (r17Due n was now).snd) +
    r11Widening ppm (IntKind.wrap IntKind.i64 ((r17Due n was now).fst + (r17Due n was now).snd)))))]) [.cells [.v (.int .i64 (was.WinSize)), .v (.int .i64 (was.WinOffset)), .v (.int .i64 (was.Interval)), .v (.int .i64 (was.Latency)), .v (.int .i64 (was.Timeout))], .cells [.v (.int .i64 (now.WinSize)), .v (.int .i64 (now.WinOffset)), .v (.int .i64 (now.Interval)), .v (.int .i64 (now.Latency)), .v (.int .i64 (now.Timeout))], .cells [.v (.int .i64 (IntKind.wrap IntKind.i64
  (IntKind.wrap IntKind.i64 (r17place anchor + (r17Due n was now).fst) -
    r11Widening ppm (IntKind.wrap IntKind.i64 ((r17Due n was now).fst + (r17Due n was now).snd))))), .v (.int .i64 (IntKind.wrap IntKind.i64
  (IntKind.wrap IntKind.i64
      (IntKind.wrap IntKind.i64 (r17place anchor + (r17Due n was now).fst) + (r17Due n was now).snd) +
    r11Widening ppm (IntKind.wrap IntKind.i64 ((r17Due n was now).fst + (r17Due n was now).snd)))))]]
theorem r17Moved.nf_ok (anchor : Int) (n : Int) (was : Update) (now : Update) (ppm : Int) (K : AV El → List (AObj El) → Prop) : evFun (mkCx Try.prog S tab_r17Due 0) 4 30 [.v (.int .i64 anchor), .v (.int .i64 n), Update.av was, Update.av now, .v (.int .i64 ppm)] [] K = r17Moved.nf anchor n was now ppm K := by kernel_rfl
theorem r17Moved.key (anchor : Int) (n : Int) (was : Update) (now : Update) (ppm : Int) (v : Window) (hv : v = r17Moved anchor n was now ppm) : r17Moved.nf anchor n was now ppm (fun r' H' => Gives r' H' (r17Moved.res v) (r17Moved.news v)) := by
  unfold r17Moved at hv
  unfold r17Moved.nf
  subst hv; exact And.intro (by kernel_rfl) (by kernel_rfl)
def r17Moved.ct : Ct El := ctOf r17Moved.dec (fun _ => []) (fun x => r17Moved.res (r17Moved x.1 x.2.1 x.2.2.1 x.2.2.2.1 x.2.2.2.2)) (fun x => r17Moved.news (r17Moved x.1 x.2.1 x.2.2.1 x.2.2.2.1 x.2.2.2.2))
theorem r17Moved.ok : CtOk (mkCx Try.prog S [] 0) 30 r17Moved.ct := ct_mk (C := (mkCx Try.prog S tab_r17Due 0)) (mkCx_ok sigOk mixed tab_r17Due_ok 0) r17Moved.dec_ok (fun x => rfl) 4 (fun x _ => (r17Moved.nf_ok x.1 x.2.1 x.2.2.1 x.2.2.2.1 x.2.2.2.2 _).mpr (r17Moved.key x.1 x.2.1 x.2.2.1 x.2.2.2.1 x.2.2.2.2 _ rfl))
def tab_r17Moved : List (FuncId × Ct El) := (30, r17Moved.ct) :: tab_r17Due
theorem tab_r17Moved_ok : TabOk Try.prog S tab_r17Moved := ⟨r17Moved.ok, by kernel_rfl, tab_r17Due_ok⟩

end Go.Aw.W
