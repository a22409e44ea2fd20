/- Contracts of the seat (printed by ct.py). -/
import Derived.Test.YtcpcakglnckpeaaDoorW0
set_option linter.unusedVariables false
set_option linter.unusedSimpArgs false
set_option maxRecDepth 20000
set_option maxHeartbeats 1000000
namespace Go.Aw.W
open Go Go.Aw Go.Proofs
attribute [local irreducible] evCode evFun evOps evDs evOne ctxK loopK loopB subC bodyC headS okH roundK

/-! wireless/octets.sized -/
def sized.res (r : Bool) : AV El := .v (.bool (r))
def sized.news (r : Bool) : List (AObj El) := []
def sized (n : Int) : Bool := bif decide ((1 : Int) ≤ n) then decide (n ≤ (8 : Int)) else false
def sized.dec (cs : List (AV El)) : Option (Int) := popI .i64 cs fun a0 c0 => popE c0 a0
def sized.enc (x : Int) : List (AV El) := [.v (.int .i64 x)]
theorem sized.dec_ok : ∀ cs x, sized.dec cs = some x → Imp (S := S) cs (sized.enc x) := by
  intro cs x h
  unfold sized.dec at h
  obtain ⟨a0, c0, rfl, h0⟩ := popI_some (S := S) h
  obtain ⟨rfl, rfl⟩ := popE_some (S := S) h0
  exact (.cons (.refl _))
def sized.nf (n : Int) (K : AV El → List (AObj El) → Prop) : Prop := Ob (o3 (decide ((1 : Int) ≤ n))) ∧ (Ob (o2 (decide ((1 : Int) ≤ n))) ∧ (K (.v (.bool (bif decide ((1 : Int) ≤ n) then decide (n ≤ (8 : Int)) else false))) []))
theorem sized.nf_ok (n : Int) (K : AV El → List (AObj El) → Prop) : evFun (mkCx Tryd.prog S tab0 0) 4 91 [.v (.int .i64 n)] [] K = sized.nf n K := by kernel_rfl
theorem sized.key (n : Int) (v : Bool) (hv : v = sized n) : sized.nf n (fun r' H' => Gives r' H' (sized.res v) (sized.news v)) := by
  unfold sized at hv
  unfold sized.nf
  refine ⟨⟨o3_ok _⟩, ?_⟩
  refine ⟨⟨o2_ok _⟩, ?_⟩
  subst hv; exact And.intro (by kernel_rfl) (by kernel_rfl)
def sized.ct : Ct El := ctOf sized.dec (fun _ => []) (fun x => sized.res (sized x)) (fun x => sized.news (sized x))
theorem sized.ok : CtOk (mkCx Tryd.prog S [] 0) 91 sized.ct := ct_mk (C := (mkCx Tryd.prog S tab0 0)) (mkCx_ok sigOk mixed tab0_ok 0) sized.dec_ok (fun x => rfl) 4 (fun x _ => (sized.nf_ok x _).mpr (sized.key x _ rfl))
def tab_sized : List (FuncId × Ct El) := (91, sized.ct) :: tab0
theorem tab_sized_ok : TabOk Tryd.prog S tab_sized := ⟨sized.ok, by kernel_rfl, tab0_ok⟩

/-! wireless/wirelessref17.within -/
def r17within.res (r : Bool) : AV El := .v (.bool (r))
def r17within.news (r : Bool) : List (AObj El) := []
def r17within (n : Int) (low : Int) (high : Int) : Bool := bif decide (low ≤ n) then decide (n ≤ high) else false
def r17within.dec (cs : List (AV El)) : Option (Int × Int × Int) := popI .i64 cs fun a0 c0 => popI .i64 c0 fun a1 c1 => popI .i64 c1 fun a2 c2 => popE c2 (a0, a1, a2)
def r17within.enc (x : Int × Int × Int) : List (AV El) := [.v (.int .i64 x.1), .v (.int .i64 x.2.1), .v (.int .i64 x.2.2)]
theorem r17within.dec_ok : ∀ cs x, r17within.dec cs = some x → Imp (S := S) cs (r17within.enc x) := by
  intro cs x h
  unfold r17within.dec at h
  obtain ⟨a0, c0, rfl, h0⟩ := popI_some (S := S) h
  obtain ⟨a1, c1, rfl, h1⟩ := popI_some (S := S) h0
  obtain ⟨a2, c2, rfl, h2⟩ := popI_some (S := S) h1
  obtain ⟨rfl, rfl⟩ := popE_some (S := S) h2
  exact (.cons (.cons (.cons (.refl _))))
def r17within.nf (n : Int) (low : Int) (high : Int) (K : AV El → List (AObj El) → Prop) : Prop := Ob (o3 (decide (low ≤ n))) ∧ (Ob (o3 (decide (low ≤ n))) ∧ (Ob (o2 (decide (low ≤ n))) ∧ (K (.v (.bool (bif decide (low ≤ n) then decide (n ≤ high) else false))) [])))
theorem r17within.nf_ok (n : Int) (low : Int) (high : Int) (K : AV El → List (AObj El) → Prop) : evFun (mkCx Tryd.prog S tab0 0) 4 79 [.v (.int .i64 n), .v (.int .i64 low), .v (.int .i64 high)] [] K = r17within.nf n low high K := by kernel_rfl
theorem r17within.key (n : Int) (low : Int) (high : Int) (v : Bool) (hv : v = r17within n low high) : r17within.nf n low high (fun r' H' => Gives r' H' (r17within.res v) (r17within.news v)) := by
  unfold r17within at hv
  unfold r17within.nf
  refine ⟨⟨o3_ok _⟩, ?_⟩
  refine ⟨⟨o3_ok _⟩, ?_⟩
  refine ⟨⟨o2_ok _⟩, ?_⟩
  subst hv; exact And.intro (by kernel_rfl) (by kernel_rfl)
def r17within.ct : Ct El := ctOf r17within.dec (fun _ => []) (fun x => r17within.res (r17within x.1 x.2.1 x.2.2)) (fun x => r17within.news (r17within x.1 x.2.1 x.2.2))
theorem r17within.ok : CtOk (mkCx Tryd.prog S [] 0) 79 r17within.ct := ct_mk (C := (mkCx Tryd.prog S tab0 0)) (mkCx_ok sigOk mixed tab0_ok 0) r17within.dec_ok (fun x => rfl) 4 (fun x _ => (r17within.nf_ok x.1 x.2.1 x.2.2 _).mpr (r17within.key x.1 x.2.1 x.2.2 _ rfl))
def tab_r17within : List (FuncId × Ct El) := (79, r17within.ct) :: tab_sized
theorem tab_r17within_ok : TabOk Tryd.prog S tab_r17within := ⟨r17within.ok, by kernel_rfl, tab_sized_ok⟩

/-! wireless/address.mask -/
def aMask.res (r : Int) : AV El := .v (.int .u64 (r))
def aMask.news (r : Int) : List (AObj El) := []
def aMask (bits : Int) : Int := IntKind.wrap IntKind.u64 (shlK IntKind.u64 (1 : Int) bits - (1 : Int))
def aMask.dec (cs : List (AV El)) : Option (Int) := popI .i64 cs fun a0 c0 => popE c0 a0
def aMask.enc (x : Int) : List (AV El) := [.v (.int .i64 x)]
theorem aMask.dec_ok : ∀ cs x, aMask.dec cs = some x → Imp (S := S) cs (aMask.enc x) := by
  intro cs x h
  unfold aMask.dec at h
  obtain ⟨a0, c0, rfl, h0⟩ := popI_some (S := S) h
  obtain ⟨rfl, rfl⟩ := popE_some (S := S) h0
  exact (.cons (.refl _))
def aMask.nf (bits : Int) (K : AV El → List (AObj El) → Prop) : Prop := Ob ((0 : Int) ≤ bits) ∧ (K (.v (.int .u64 (IntKind.wrap IntKind.u64 (shlK IntKind.u64 (1 : Int) bits - (1 : Int))))) [])
theorem aMask.nf_ok (bits : Int) (K : AV El → List (AObj El) → Prop) : evFun (mkCx Tryd.prog S tab0 0) 4 66 [.v (.int .i64 bits)] [] K = aMask.nf bits K := by kernel_rfl
theorem aMask.key (bits : Int) (hp : 0 ≤ bits) (v : Int) (hv : v = aMask bits) : aMask.nf bits (fun r' H' => Gives r' H' (aMask.res v) (aMask.news v)) := by
  unfold aMask at hv
  unfold aMask.nf
  refine ⟨⟨by (try clear hv); (try clear q1 q2); (try clear hk); (first | omega | ((try simp only [decide_eq_true_eq, decide_eq_false_iff_not, Bool.not_eq_true, Bool.not_eq_false, Bool.and_eq_true, Bool.or_eq_true, Bool.not_not, cond_and, cond_or, List.length_append, List.length_cons, List.length_nil] at *); (first | omega | (intros; (try simp only [Bool.not_not, cond_and, cond_or, Bool.and_eq_true, decide_eq_true_eq] at *); (exact band_nn rfl _ _)) | (intros; (try simp only [Bool.not_not, cond_and, cond_or, Bool.and_eq_true, decide_eq_true_eq] at *); (exact (wu64s _).2.1)) | (intros; (try simp only [Bool.not_not, cond_and, cond_or, Bool.and_eq_true, decide_eq_true_eq] at *); (simp only [Bool.or_eq_false_iff, Bool.and_eq_false_iff, decide_eq_false_iff_not, decide_eq_true_eq, bne_iff_ne, beq_iff_eq, bne_eq_false_iff_eq, beq_eq_false_iff_ne, ne_eq, true_and] at *; omega)) | (intros; (try simp only [Bool.not_not, cond_and, cond_or, Bool.and_eq_true, decide_eq_true_eq] at *); (simp only [List.length_drop, List.length_take, List.length_append, List.length_cons, List.length_nil] at *; omega)) | (intros; omega) | (intros; simp only [Bool.not_not, cond_and, cond_or, Bool.and_eq_true, decide_eq_true_eq] at *; omega) | (intros; simp_all [Bool.not_not]; done))))⟩, ?_⟩
  subst hv; exact And.intro (by kernel_rfl) (by kernel_rfl)
def aMask.ct : Ct El := ctOf aMask.dec (fun x => [0 ≤ x]) (fun x => aMask.res (aMask x)) (fun x => aMask.news (aMask x))
theorem aMask.ok : CtOk (mkCx Tryd.prog S [] 0) 66 aMask.ct := ct_mk (C := (mkCx Tryd.prog S tab0 0)) (mkCx_ok sigOk mixed tab0_ok 0) aMask.dec_ok (fun x => rfl) 4 (fun x hp => (aMask.nf_ok x _).mpr (aMask.key x (hp _ (List.mem_singleton.2 rfl)) _ rfl))
def tab_aMask : List (FuncId × Ct El) := (66, aMask.ct) :: tab_r17within
theorem tab_aMask_ok : TabOk Tryd.prog S tab_aMask := ⟨aMask.ok, by kernel_rfl, tab_r17within_ok⟩

/-! wireless/wirelessref08.prefix -/
def r8prefix.res (r : Int) : AV El := .v (.int .u64 (r))
def r8prefix.news (r : Int) : List (AObj El) := []
def r8prefix (kind : Int) : Int := cond (kind == (2 : Int)) ((3 : Int)) (cond (kind == (3 : Int)) ((1 : Int)) ((0 : Int)))
def r8prefix.dec (cs : List (AV El)) : Option (Int) := popI .i64 cs fun a0 c0 => popE c0 a0
def r8prefix.enc (x : Int) : List (AV El) := [.v (.int .i64 x)]
theorem r8prefix.dec_ok : ∀ cs x, r8prefix.dec cs = some x → Imp (S := S) cs (r8prefix.enc x) := by
  intro cs x h
  unfold r8prefix.dec at h
  obtain ⟨a0, c0, rfl, h0⟩ := popI_some (S := S) h
  obtain ⟨rfl, rfl⟩ := popE_some (S := S) h0
  exact (.cons (.refl _))
def r8prefix.nf (kind : Int) (K : AV El → List (AObj El) → Prop) : Prop := cond (kind == (2 : Int)) (K (.v (.int .u64 ((3 : Int)))) []) (cond (kind == (3 : Int)) (K (.v (.int .u64 ((1 : Int)))) []) (K (.v (.int .u64 ((0 : Int)))) []))
theorem r8prefix.nf_ok (kind : Int) (K : AV El → List (AObj El) → Prop) : evFun (mkCx Tryd.prog S tab0 0) 4 67 [.v (.int .i64 kind)] [] K = r8prefix.nf kind K := by kernel_rfl
theorem r8prefix.key (kind : Int) (v : Int) (hv : v = r8prefix kind) : r8prefix.nf kind (fun r' H' => Gives r' H' (r8prefix.res v) (r8prefix.news v)) := by
  unfold r8prefix at hv
  unfold r8prefix.nf
  revert hv; refine by_cond2 (fun hb hv => ?_) (fun hb hv => ?_)
  · subst hv; exact And.intro (by kernel_rfl) (by kernel_rfl)
  · revert hv; refine by_cond2 (fun hb hv => ?_) (fun hb hv => ?_)
    · subst hv; exact And.intro (by kernel_rfl) (by kernel_rfl)
    · subst hv; exact And.intro (by kernel_rfl) (by kernel_rfl)
def r8prefix.ct : Ct El := ctOf r8prefix.dec (fun _ => []) (fun x => r8prefix.res (r8prefix x)) (fun x => r8prefix.news (r8prefix x))
theorem r8prefix.ok : CtOk (mkCx Tryd.prog S [] 0) 67 r8prefix.ct := ct_mk (C := (mkCx Tryd.prog S tab0 0)) (mkCx_ok sigOk mixed tab0_ok 0) r8prefix.dec_ok (fun x => rfl) 4 (fun x _ => (r8prefix.nf_ok x _).mpr (r8prefix.key x _ rfl))
def tab_r8prefix : List (FuncId × Ct El) := (67, r8prefix.ct) :: tab_aMask
theorem tab_r8prefix_ok : TabOk Tryd.prog S tab_r8prefix := ⟨r8prefix.ok, by kernel_rfl, tab_aMask_ok⟩

/-! wireless/advpdu.Scannable -/
def aScan.res (r : Bool) : AV El := .v (.bool (r))
def aScan.news (r : Bool) : List (AObj El) := []
def aScan (kind : Int) : Bool := bif kind == (0 : Int) then true else kind == (6 : Int)
def aScan.dec (cs : List (AV El)) : Option (Int) := popI .i64 cs fun a0 c0 => popE c0 a0
def aScan.enc (x : Int) : List (AV El) := [.v (.int .i64 x)]
theorem aScan.dec_ok : ∀ cs x, aScan.dec cs = some x → Imp (S := S) cs (aScan.enc x) := by
  intro cs x h
  unfold aScan.dec at h
  obtain ⟨a0, c0, rfl, h0⟩ := popI_some (S := S) h
  obtain ⟨rfl, rfl⟩ := popE_some (S := S) h0
  exact (.cons (.refl _))
def aScan.nf (kind : Int) (K : AV El → List (AObj El) → Prop) : Prop := Ob (o3 (!kind == (0 : Int))) ∧ (Ob (on (kind == (0 : Int))) ∧ (K (.v (.bool (bif kind == (0 : Int) then true else kind == (6 : Int)))) []))
theorem aScan.nf_ok (kind : Int) (K : AV El → List (AObj El) → Prop) : evFun (mkCx Tryd.prog S tab0 0) 4 39 [.v (.int .i64 kind)] [] K = aScan.nf kind K := by kernel_rfl
theorem aScan.key (kind : Int) (v : Bool) (hv : v = aScan kind) : aScan.nf kind (fun r' H' => Gives r' H' (aScan.res v) (aScan.news v)) := by
  unfold aScan at hv
  unfold aScan.nf
  refine ⟨⟨o3_ok _⟩, ?_⟩
  refine ⟨⟨on_ok _⟩, ?_⟩
  subst hv; exact And.intro (by kernel_rfl) (by kernel_rfl)
def aScan.ct : Ct El := ctOf aScan.dec (fun _ => []) (fun x => aScan.res (aScan x)) (fun x => aScan.news (aScan x))
theorem aScan.ok : CtOk (mkCx Tryd.prog S [] 0) 39 aScan.ct := ct_mk (C := (mkCx Tryd.prog S tab0 0)) (mkCx_ok sigOk mixed tab0_ok 0) aScan.dec_ok (fun x => rfl) 4 (fun x _ => (aScan.nf_ok x _).mpr (aScan.key x _ rfl))
def tab_aScan : List (FuncId × Ct El) := (39, aScan.ct) :: tab_r8prefix
theorem tab_aScan_ok : TabOk Tryd.prog S tab_aScan := ⟨aScan.ok, by kernel_rfl, tab_r8prefix_ok⟩

/-! wireless/wirelessref19.Scannable -/
def r19Scan.res (r : Bool) : AV El := .v (.bool (r))
def r19Scan.news (r : Bool) : List (AObj El) := []
def r19Scan (kind : Int) : Bool := bif kind == (0 : Int) then true else kind == (6 : Int)
def r19Scan.dec (cs : List (AV El)) : Option (Int) := popI .i64 cs fun a0 c0 => popE c0 a0
def r19Scan.enc (x : Int) : List (AV El) := [.v (.int .i64 x)]
theorem r19Scan.dec_ok : ∀ cs x, r19Scan.dec cs = some x → Imp (S := S) cs (r19Scan.enc x) := by
  intro cs x h
  unfold r19Scan.dec at h
  obtain ⟨a0, c0, rfl, h0⟩ := popI_some (S := S) h
  obtain ⟨rfl, rfl⟩ := popE_some (S := S) h0
  exact (.cons (.refl _))
def r19Scan.nf (kind : Int) (K : AV El → List (AObj El) → Prop) : Prop := Ob (o3 (!kind == (0 : Int))) ∧ (Ob (on (kind == (0 : Int))) ∧ (K (.v (.bool (bif kind == (0 : Int) then true else kind == (6 : Int)))) []))
theorem r19Scan.nf_ok (kind : Int) (K : AV El → List (AObj El) → Prop) : evFun (mkCx Tryd.prog S tab0 0) 4 40 [.v (.int .i64 kind)] [] K = r19Scan.nf kind K := by kernel_rfl
theorem r19Scan.key (kind : Int) (v : Bool) (hv : v = r19Scan kind) : r19Scan.nf kind (fun r' H' => Gives r' H' (r19Scan.res v) (r19Scan.news v)) := by
  unfold r19Scan at hv
  unfold r19Scan.nf
  refine ⟨⟨o3_ok _⟩, ?_⟩
  refine ⟨⟨on_ok _⟩, ?_⟩
  subst hv; exact And.intro (by kernel_rfl) (by kernel_rfl)
def r19Scan.ct : Ct El := ctOf r19Scan.dec (fun _ => []) (fun x => r19Scan.res (r19Scan x)) (fun x => r19Scan.news (r19Scan x))
theorem r19Scan.ok : CtOk (mkCx Tryd.prog S [] 0) 40 r19Scan.ct := ct_mk (C := (mkCx Tryd.prog S tab0 0)) (mkCx_ok sigOk mixed tab0_ok 0) r19Scan.dec_ok (fun x => rfl) 4 (fun x _ => (r19Scan.nf_ok x _).mpr (r19Scan.key x _ rfl))
def tab_r19Scan : List (FuncId × Ct El) := (40, r19Scan.ct) :: tab_aScan
theorem tab_r19Scan_ok : TabOk Tryd.prog S tab_r19Scan := ⟨r19Scan.ok, by kernel_rfl, tab_aScan_ok⟩

/-! wireless/advpdu.Connectable -/
def aConn.res (r : Bool) : AV El := .v (.bool (r))
def aConn.news (r : Bool) : List (AObj El) := []
def aConn (kind : Int) : Bool := bif kind == (0 : Int) then true else kind == (1 : Int)
def aConn.dec (cs : List (AV El)) : Option (Int) := popI .i64 cs fun a0 c0 => popE c0 a0
def aConn.enc (x : Int) : List (AV El) := [.v (.int .i64 x)]
theorem aConn.dec_ok : ∀ cs x, aConn.dec cs = some x → Imp (S := S) cs (aConn.enc x) := by
  intro cs x h
  unfold aConn.dec at h
  obtain ⟨a0, c0, rfl, h0⟩ := popI_some (S := S) h
  obtain ⟨rfl, rfl⟩ := popE_some (S := S) h0
  exact (.cons (.refl _))
def aConn.nf (kind : Int) (K : AV El → List (AObj El) → Prop) : Prop := Ob (o3 (!kind == (0 : Int))) ∧ (Ob (on (kind == (0 : Int))) ∧ (K (.v (.bool (bif kind == (0 : Int) then true else kind == (1 : Int)))) []))
theorem aConn.nf_ok (kind : Int) (K : AV El → List (AObj El) → Prop) : evFun (mkCx Tryd.prog S tab0 0) 4 41 [.v (.int .i64 kind)] [] K = aConn.nf kind K := by kernel_rfl
theorem aConn.key (kind : Int) (v : Bool) (hv : v = aConn kind) : aConn.nf kind (fun r' H' => Gives r' H' (aConn.res v) (aConn.news v)) := by
  unfold aConn at hv
  unfold aConn.nf
  refine ⟨⟨o3_ok _⟩, ?_⟩
  refine ⟨⟨on_ok _⟩, ?_⟩
  subst hv; exact And.intro (by kernel_rfl) (by kernel_rfl)
def aConn.ct : Ct El := ctOf aConn.dec (fun _ => []) (fun x => aConn.res (aConn x)) (fun x => aConn.news (aConn x))
theorem aConn.ok : CtOk (mkCx Tryd.prog S [] 0) 41 aConn.ct := ct_mk (C := (mkCx Tryd.prog S tab0 0)) (mkCx_ok sigOk mixed tab0_ok 0) aConn.dec_ok (fun x => rfl) 4 (fun x _ => (aConn.nf_ok x _).mpr (aConn.key x _ rfl))
def tab_aConn : List (FuncId × Ct El) := (41, aConn.ct) :: tab_r19Scan
theorem tab_aConn_ok : TabOk Tryd.prog S tab_aConn := ⟨aConn.ok, by kernel_rfl, tab_r19Scan_ok⟩

/-! wireless/wirelessref19.Connectable -/
def r19Conn.res (r : Bool) : AV El := .v (.bool (r))
def r19Conn.news (r : Bool) : List (AObj El) := []
def r19Conn (kind : Int) : Bool := bif kind == (0 : Int) then true else kind == (1 : Int)
def r19Conn.dec (cs : List (AV El)) : Option (Int) := popI .i64 cs fun a0 c0 => popE c0 a0
def r19Conn.enc (x : Int) : List (AV El) := [.v (.int .i64 x)]
theorem r19Conn.dec_ok : ∀ cs x, r19Conn.dec cs = some x → Imp (S := S) cs (r19Conn.enc x) := by
  intro cs x h
  unfold r19Conn.dec at h
  obtain ⟨a0, c0, rfl, h0⟩ := popI_some (S := S) h
  obtain ⟨rfl, rfl⟩ := popE_some (S := S) h0
  exact (.cons (.refl _))
def r19Conn.nf (kind : Int) (K : AV El → List (AObj El) → Prop) : Prop := Ob (o3 (!kind == (0 : Int))) ∧ (Ob (on (kind == (0 : Int))) ∧ (K (.v (.bool (bif kind == (0 : Int) then true else kind == (1 : Int)))) []))
theorem r19Conn.nf_ok (kind : Int) (K : AV El → List (AObj El) → Prop) : evFun (mkCx Tryd.prog S tab0 0) 4 42 [.v (.int .i64 kind)] [] K = r19Conn.nf kind K := by kernel_rfl
theorem r19Conn.key (kind : Int) (v : Bool) (hv : v = r19Conn kind) : r19Conn.nf kind (fun r' H' => Gives r' H' (r19Conn.res v) (r19Conn.news v)) := by
  unfold r19Conn at hv
  unfold r19Conn.nf
  refine ⟨⟨o3_ok _⟩, ?_⟩
  refine ⟨⟨on_ok _⟩, ?_⟩
  subst hv; exact And.intro (by kernel_rfl) (by kernel_rfl)
def r19Conn.ct : Ct El := ctOf r19Conn.dec (fun _ => []) (fun x => r19Conn.res (r19Conn x)) (fun x => r19Conn.news (r19Conn x))
theorem r19Conn.ok : CtOk (mkCx Tryd.prog S [] 0) 42 r19Conn.ct := ct_mk (C := (mkCx Tryd.prog S tab0 0)) (mkCx_ok sigOk mixed tab0_ok 0) r19Conn.dec_ok (fun x => rfl) 4 (fun x _ => (r19Conn.nf_ok x _).mpr (r19Conn.key x _ rfl))
def tab_r19Conn : List (FuncId × Ct El) := (42, r19Conn.ct) :: tab_aConn
theorem tab_r19Conn_ok : TabOk Tryd.prog S tab_r19Conn := ⟨r19Conn.ok, by kernel_rfl, tab_aConn_ok⟩

/-! wireless/wirelessref19.HasTarget -/
def hasTarget.res (r : Bool) : AV El := .v (.bool (r))
def hasTarget.news (r : Bool) : List (AObj El) := []
def hasTarget (kind : Int) : Bool := bif bif kind == (1 : Int) then true else kind == (3 : Int) then true else kind == (5 : Int)
def hasTarget.dec (cs : List (AV El)) : Option (Int) := popI .i64 cs fun a0 c0 => popE c0 a0
def hasTarget.enc (x : Int) : List (AV El) := [.v (.int .i64 x)]
theorem hasTarget.dec_ok : ∀ cs x, hasTarget.dec cs = some x → Imp (S := S) cs (hasTarget.enc x) := by
  intro cs x h
  unfold hasTarget.dec at h
  obtain ⟨a0, c0, rfl, h0⟩ := popI_some (S := S) h
  obtain ⟨rfl, rfl⟩ := popE_some (S := S) h0
  exact (.cons (.refl _))
def hasTarget.nf (kind : Int) (K : AV El → List (AObj El) → Prop) : Prop := Ob (o3 (!kind == (1 : Int))) ∧ (Ob (on (kind == (1 : Int))) ∧ (Ob (o3 (!bif kind == (1 : Int) then true else kind == (3 : Int))) ∧ (Ob (on (bif kind == (1 : Int) then true else kind == (3 : Int))) ∧ (K (.v (.bool (bif bif kind == (1 : Int) then true else kind == (3 : Int) then true else kind == (5 : Int)))) []))))
theorem hasTarget.nf_ok (kind : Int) (K : AV El → List (AObj El) → Prop) : evFun (mkCx Tryd.prog S tab0 0) 4 54 [.v (.int .i64 kind)] [] K = hasTarget.nf kind K := by kernel_rfl
theorem hasTarget.key (kind : Int) (v : Bool) (hv : v = hasTarget kind) : hasTarget.nf kind (fun r' H' => Gives r' H' (hasTarget.res v) (hasTarget.news v)) := by
  unfold hasTarget at hv
  unfold hasTarget.nf
  refine ⟨⟨o3_ok _⟩, ?_⟩
  refine ⟨⟨on_ok _⟩, ?_⟩
  refine ⟨⟨o3_ok _⟩, ?_⟩
  refine ⟨⟨on_ok _⟩, ?_⟩
  subst hv; exact And.intro (by kernel_rfl) (by kernel_rfl)
def hasTarget.ct : Ct El := ctOf hasTarget.dec (fun _ => []) (fun x => hasTarget.res (hasTarget x)) (fun x => hasTarget.news (hasTarget x))
theorem hasTarget.ok : CtOk (mkCx Tryd.prog S [] 0) 54 hasTarget.ct := ct_mk (C := (mkCx Tryd.prog S tab0 0)) (mkCx_ok sigOk mixed tab0_ok 0) hasTarget.dec_ok (fun x => rfl) 4 (fun x _ => (hasTarget.nf_ok x _).mpr (hasTarget.key x _ rfl))
def tab_hasTarget : List (FuncId × Ct El) := (54, hasTarget.ct) :: tab_r19Conn
theorem tab_hasTarget_ok : TabOk Tryd.prog S tab_hasTarget := ⟨hasTarget.ok, by kernel_rfl, tab_r19Conn_ok⟩

/-! wireless/wirelessref19.HasData -/
def hasData.res (r : Bool) : AV El := .v (.bool (r))
def hasData.news (r : Bool) : List (AObj El) := []
def hasData (kind : Int) : Bool := bif bif bif kind == (0 : Int) then true else kind == (2 : Int) then true else kind == (4 : Int) then true
else kind == (6 : Int)
def hasData.dec (cs : List (AV El)) : Option (Int) := popI .i64 cs fun a0 c0 => popE c0 a0
def hasData.enc (x : Int) : List (AV El) := [.v (.int .i64 x)]
theorem hasData.dec_ok : ∀ cs x, hasData.dec cs = some x → Imp (S := S) cs (hasData.enc x) := by
  intro cs x h
  unfold hasData.dec at h
  obtain ⟨a0, c0, rfl, h0⟩ := popI_some (S := S) h
  obtain ⟨rfl, rfl⟩ := popE_some (S := S) h0
  exact (.cons (.refl _))
def hasData.nf (kind : Int) (K : AV El → List (AObj El) → Prop) : Prop := Ob (o3 (!kind == (0 : Int))) ∧ (Ob (on (kind == (0 : Int))) ∧ (Ob (o3 (!bif kind == (0 : Int) then true else kind == (2 : Int))) ∧ (Ob (on (bif kind == (0 : Int) then true else kind == (2 : Int))) ∧ (Ob (o3 (!bif bif kind == (0 : Int) then true else kind == (2 : Int) then true else kind == (4 : Int))) ∧ (Ob (on (bif bif kind == (0 : Int) then true else kind == (2 : Int) then true else kind == (4 : Int))) ∧ (K (.v (.bool (bif bif bif kind == (0 : Int) then true else kind == (2 : Int) then true else kind == (4 : Int) then true
else kind == (6 : Int)))) []))))))
theorem hasData.nf_ok (kind : Int) (K : AV El → List (AObj El) → Prop) : evFun (mkCx Tryd.prog S tab0 0) 4 55 [.v (.int .i64 kind)] [] K = hasData.nf kind K := by kernel_rfl
theorem hasData.key (kind : Int) (v : Bool) (hv : v = hasData kind) : hasData.nf kind (fun r' H' => Gives r' H' (hasData.res v) (hasData.news v)) := by
  unfold hasData at hv
  unfold hasData.nf
  refine ⟨⟨o3_ok _⟩, ?_⟩
  refine ⟨⟨on_ok _⟩, ?_⟩
  refine ⟨⟨o3_ok _⟩, ?_⟩
  refine ⟨⟨on_ok _⟩, ?_⟩
  refine ⟨⟨o3_ok _⟩, ?_⟩
  refine ⟨⟨on_ok _⟩, ?_⟩
  subst hv; exact And.intro (by kernel_rfl) (by kernel_rfl)
def hasData.ct : Ct El := ctOf hasData.dec (fun _ => []) (fun x => hasData.res (hasData x)) (fun x => hasData.news (hasData x))
theorem hasData.ok : CtOk (mkCx Tryd.prog S [] 0) 55 hasData.ct := ct_mk (C := (mkCx Tryd.prog S tab0 0)) (mkCx_ok sigOk mixed tab0_ok 0) hasData.dec_ok (fun x => rfl) 4 (fun x _ => (hasData.nf_ok x _).mpr (hasData.key x _ rfl))
def tab_hasData : List (FuncId × Ct El) := (55, hasData.ct) :: tab_hasTarget
theorem tab_hasData_ok : TabOk Tryd.prog S tab_hasData := ⟨hasData.ok, by kernel_rfl, tab_hasTarget_ok⟩

/-! wireless/advpdu.formOf -/
def aForm.res (r : AdvpduForm) : AV El := AdvpduForm.av (r)
def aForm.news (r : AdvpduForm) : List (AObj El) := []
def aForm (kind : Int) : AdvpduForm := cond (kind == (5 : Int)) ((⟨(true), (true), (false), (true)⟩ : AdvpduForm)) (cond (kind == (1 : Int)) (cond (kind == (1 : Int)) ((⟨(true), (true), (false), (false)⟩ : AdvpduForm)) (cond (kind == (0 : Int)) (cond (kind == (0 : Int)) ((⟨(true), (false), (true), (false)⟩ : AdvpduForm)) ((⟨(false), (false), (false), (false)⟩ : AdvpduForm))) (cond (kind == (2 : Int)) (cond (kind == (2 : Int)) ((⟨(true), (false), (true), (false)⟩ : AdvpduForm)) ((⟨(false), (false), (false), (false)⟩ : AdvpduForm))) (cond (kind == (4 : Int)) (cond (kind == (4 : Int)) ((⟨(true), (false), (true), (false)⟩ : AdvpduForm)) ((⟨(false), (false), (false), (false)⟩ : AdvpduForm))) (cond (kind == (6 : Int)) ((⟨(true), (false), (true), (false)⟩ : AdvpduForm)) ((⟨(false), (false), (false), (false)⟩ : AdvpduForm))))))) (cond (kind == (3 : Int)) ((⟨(true), (true), (false), (false)⟩ : AdvpduForm)) (cond (kind == (0 : Int)) (cond (kind == (0 : Int)) ((⟨(true), (false), (true), (false)⟩ : AdvpduForm)) ((⟨(false), (false), (false), (false)⟩ : AdvpduForm))) (cond (kind == (2 : Int)) (cond (kind == (2 : Int)) ((⟨(true), (false), (true), (false)⟩ : AdvpduForm)) ((⟨(false), (false), (false), (false)⟩ : AdvpduForm))) (cond (kind == (4 : Int)) (cond (kind == (4 : Int)) ((⟨(true), (false), (true), (false)⟩ : AdvpduForm)) ((⟨(false), (false), (false), (false)⟩ : AdvpduForm))) (cond (kind == (6 : Int)) ((⟨(true), (false), (true), (false)⟩ : AdvpduForm)) ((⟨(false), (false), (false), (false)⟩ : AdvpduForm))))))))
def aForm.dec (cs : List (AV El)) : Option (Int) := popI .i64 cs fun a0 c0 => popE c0 a0
def aForm.enc (x : Int) : List (AV El) := [.v (.int .i64 x)]
theorem aForm.dec_ok : ∀ cs x, aForm.dec cs = some x → Imp (S := S) cs (aForm.enc x) := by
  intro cs x h
  unfold aForm.dec at h
  obtain ⟨a0, c0, rfl, h0⟩ := popI_some (S := S) h
  obtain ⟨rfl, rfl⟩ := popE_some (S := S) h0
  exact (.cons (.refl _))
def aForm.nf (kind : Int) (K : AV El → List (AObj El) → Prop) : Prop := cond (kind == (5 : Int)) (K (.agg [.v (.bool (true)), .v (.bool (true)), .v (.bool (false)), .v (.bool (true))]) [.cells [.v (.bool (true)), .v (.bool (true)), .v (.bool (false)), .v (.bool (true))], .cells [.v (.bool (true)), .v (.bool (true)), .v (.bool (false)), .v (.bool (true))]]) (cond (kind == (1 : Int)) (cond (kind == (1 : Int)) (K (.agg [.v (.bool (true)), .v (.bool (true)), .v (.bool (false)), .v (.bool (false))]) [.cells [.v (.bool (true)), .v (.bool (true)), .v (.bool (false)), .v (.bool (false))], .cells [.v (.bool (true)), .v (.bool (true)), .v (.bool (false)), .v (.bool (false))]]) (cond (kind == (0 : Int)) (cond (kind == (0 : Int)) (K (.agg [.v (.bool (true)), .v (.bool (false)), .v (.bool (true)), .v (.bool (false))]) [.cells [.v (.bool (true)), .v (.bool (false)), .v (.bool (true)), .v (.bool (false))], .cells [.v (.bool (true)), .v (.bool (false)), .v (.bool (true)), .v (.bool (false))]]) (K (.agg [.v (.bool (false)), .v (.bool (false)), .v (.bool (false)), .v (.bool (false))]) [.cells [.v (.bool (false)), .v (.bool (false)), .v (.bool (false)), .v (.bool (false))], .cells [.v (.bool (false)), .v (.bool (false)), .v (.bool (false)), .v (.bool (false))]])) (cond (kind == (2 : Int)) (cond (kind == (2 : Int)) (K (.agg [.v (.bool (true)), .v (.bool (false)), .v (.bool (true)), .v (.bool (false))]) [.cells [.v (.bool (true)), .v (.bool (false)), .v (.bool (true)), .v (.bool (false))], .cells [.v (.bool (true)), .v (.bool (false)), .v (.bool (true)), .v (.bool (false))]]) (K (.agg [.v (.bool (false)), .v (.bool (false)), .v (.bool (false)), .v (.bool (false))]) [.cells [.v (.bool (false)), .v (.bool (false)), .v (.bool (false)), .v (.bool (false))], .cells [.v (.bool (false)), .v (.bool (false)), .v (.bool (false)), .v (.bool (false))]])) (cond (kind == (4 : Int)) (cond (kind == (4 : Int)) (K (.agg [.v (.bool (true)), .v (.bool (false)), .v (.bool (true)), .v (.bool (false))]) [.cells [.v (.bool (true)), .v (.bool (false)), .v (.bool (true)), .v (.bool (false))], .cells [.v (.bool (true)), .v (.bool (false)), .v (.bool (true)), .v (.bool (false))]]) (K (.agg [.v (.bool (false)), .v (.bool (false)), .v (.bool (false)), .v (.bool (false))]) [.cells [.v (.bool (false)), .v (.bool (false)), .v (.bool (false)), .v (.bool (false))], .cells [.v (.bool (false)), .v (.bool (false)), .v (.bool (false)), .v (.bool (false))]])) (cond (kind == (6 : Int)) (K (.agg [.v (.bool (true)), .v (.bool (false)), .v (.bool (true)), .v (.bool (false))]) [.cells [.v (.bool (true)), .v (.bool (false)), .v (.bool (true)), .v (.bool (false))], .cells [.v (.bool (true)), .v (.bool (false)), .v (.bool (true)), .v (.bool (false))]]) (K (.agg [.v (.bool (false)), .v (.bool (false)), .v (.bool (false)), .v (.bool (false))]) [.cells [.v (.bool (false)), .v (.bool (false)), .v (.bool (false)), .v (.bool (false))], .cells [.v (.bool (false)), .v (.bool (false)), .v (.bool (false)), .v (.bool (false))]])))))) (cond (kind == (3 : Int)) (K (.agg [.v (.bool (true)), .v (.bool (true)), .v (.bool (false)), .v (.bool (false))]) [.cells [.v (.bool (true)), .v (.bool (true)), .v (.bool (false)), .v (.bool (false))], .cells [.v (.bool (true)), .v (.bool (true)), .v (.bool (false)), .v (.bool (false))]]) (cond (kind == (0 : Int)) (cond (kind == (0 : Int)) (K (.agg [.v (.bool (true)), .v (.bool (false)), .v (.bool (true)), .v (.bool (false))]) [.cells [.v (.bool (true)), .v (.bool (false)), .v (.bool (true)), .v (.bool (false))], .cells [.v (.bool (true)), .v (.bool (false)), .v (.bool (true)), .v (.bool (false))]]) (K (.agg [.v (.bool (false)), .v (.bool (false)), .v (.bool (false)), .v (.bool (false))]) [.cells [.v (.bool (false)), .v (.bool (false)), .v (.bool (false)), .v (.bool (false))], .cells [.v (.bool (false)), .v (.bool (false)), .v (.bool (false)), .v (.bool (false))]])) (cond (kind == (2 : Int)) (cond (kind == (2 : Int)) (K (.agg [.v (.bool (true)), .v (.bool (false)), .v (.bool (true)), .v (.bool (false))]) [.cells [.v (.bool (true)), .v (.bool (false)), .v (.bool (true)), .v (.bool (false))], .cells [.v (.bool (true)), .v (.bool (false)), .v (.bool (true)), .v (.bool (false))]]) (K (.agg [.v (.bool (false)), .v (.bool (false)), .v (.bool (false)), .v (.bool (false))]) [.cells [.v (.bool (false)), .v (.bool (false)), .v (.bool (false)), .v (.bool (false))], .cells [.v (.bool (false)), .v (.bool (false)), .v (.bool (false)), .v (.bool (false))]])) (cond (kind == (4 : Int)) (cond (kind == (4 : Int)) (K (.agg [.v (.bool (true)), .v (.bool (false)), .v (.bool (true)), .v (.bool (false))]) [.cells [.v (.bool (true)), .v (.bool (false)), .v (.bool (true)), .v (.bool (false))], .cells [.v (.bool (true)), .v (.bool (false)), .v (.bool (true)), .v (.bool (false))]]) (K (.agg [.v (.bool (false)), .v (.bool (false)), .v (.bool (false)), .v (.bool (false))]) [.cells [.v (.bool (false)), .v (.bool (false)), .v (.bool (false)), .v (.bool (false))], .cells [.v (.bool (false)), .v (.bool (false)), .v (.bool (false)), .v (.bool (false))]])) (cond (kind == (6 : Int)) (K (.agg [.v (.bool (true)), .v (.bool (false)), .v (.bool (true)), .v (.bool (false))]) [.cells [.v (.bool (true)), .v (.bool (false)), .v (.bool (true)), .v (.bool (false))], .cells [.v (.bool (true)), .v (.bool (false)), .v (.bool (true)), .v (.bool (false))]]) (K (.agg [.v (.bool (false)), .v (.bool (false)), .v (.bool (false)), .v (.bool (false))]) [.cells [.v (.bool (false)), .v (.bool (false)), .v (.bool (false)), .v (.bool (false))], .cells [.v (.bool (false)), .v (.bool (false)), .v (.bool (false)), .v (.bool (false))]])))))))
theorem aForm.nf_ok (kind : Int) (K : AV El → List (AObj El) → Prop) : evFun (mkCx Tryd.prog S tab0 0) 4 52 [.v (.int .i64 kind)] [] K = aForm.nf kind K := by kernel_rfl
theorem aForm.key (kind : Int) (v : AdvpduForm) (hv : v = aForm kind) : aForm.nf kind (fun r' H' => Gives r' H' (aForm.res v) (aForm.news v)) := by
  unfold aForm at hv
  unfold aForm.nf
  revert hv; refine by_cond2 (fun hb hv => ?_) (fun hb hv => ?_)
  · subst hv; exact And.intro (by kernel_rfl) (by kernel_rfl)
  · revert hv; refine by_cond2 (fun hb hv => ?_) (fun hb hv => ?_)
    · revert hv; refine by_cond2 (fun hb hv => ?_) (fun hb hv => ?_)
      · subst hv; exact And.intro (by kernel_rfl) (by kernel_rfl)
      · revert hv; refine by_cond2 (fun hb hv => ?_) (fun hb hv => ?_)
        · revert hv; refine by_cond2 (fun hb hv => ?_) (fun hb hv => ?_)
          · subst hv; exact And.intro (by kernel_rfl) (by kernel_rfl)
          · subst hv; exact And.intro (by kernel_rfl) (by kernel_rfl)
        · revert hv; refine by_cond2 (fun hb hv => ?_) (fun hb hv => ?_)
          · revert hv; refine by_cond2 (fun hb hv => ?_) (fun hb hv => ?_)
            · subst hv; exact And.intro (by kernel_rfl) (by kernel_rfl)
            · subst hv; exact And.intro (by kernel_rfl) (by kernel_rfl)
          · revert hv; refine by_cond2 (fun hb hv => ?_) (fun hb hv => ?_)
            · revert hv; refine by_cond2 (fun hb hv => ?_) (fun hb hv => ?_)
              · subst hv; exact And.intro (by kernel_rfl) (by kernel_rfl)
              · subst hv; exact And.intro (by kernel_rfl) (by kernel_rfl)
            · revert hv; refine by_cond2 (fun hb hv => ?_) (fun hb hv => ?_)
              · subst hv; exact And.intro (by kernel_rfl) (by kernel_rfl)
              · subst hv; exact And.intro (by kernel_rfl) (by kernel_rfl)
    · revert hv; refine by_cond2 (fun hb hv => ?_) (fun hb hv => ?_)
      · subst hv; exact And.intro (by kernel_rfl) (by kernel_rfl)
      · revert hv; refine by_cond2 (fun hb hv => ?_) (fun hb hv => ?_)
        · revert hv; refine by_cond2 (fun hb hv => ?_) (fun hb hv => ?_)
          · subst hv; exact And.intro (by kernel_rfl) (by kernel_rfl)
          · subst hv; exact And.intro (by kernel_rfl) (by kernel_rfl)
        · revert hv; refine by_cond2 (fun hb hv => ?_) (fun hb hv => ?_)
          · revert hv; refine by_cond2 (fun hb hv => ?_) (fun hb hv => ?_)
            · subst hv; exact And.intro (by kernel_rfl) (by kernel_rfl)
            · subst hv; exact And.intro (by kernel_rfl) (by kernel_rfl)
          · revert hv; refine by_cond2 (fun hb hv => ?_) (fun hb hv => ?_)
            · revert hv; refine by_cond2 (fun hb hv => ?_) (fun hb hv => ?_)
              · subst hv; exact And.intro (by kernel_rfl) (by kernel_rfl)
              · subst hv; exact And.intro (by kernel_rfl) (by kernel_rfl)
            · revert hv; refine by_cond2 (fun hb hv => ?_) (fun hb hv => ?_)
              · subst hv; exact And.intro (by kernel_rfl) (by kernel_rfl)
              · subst hv; exact And.intro (by kernel_rfl) (by kernel_rfl)
def aForm.ct : Ct El := ctOf aForm.dec (fun _ => []) (fun x => aForm.res (aForm x)) (fun x => aForm.news (aForm x))
theorem aForm.ok : CtOk (mkCx Tryd.prog S [] 0) 52 aForm.ct := ct_mk (C := (mkCx Tryd.prog S tab0 0)) (mkCx_ok sigOk mixed tab0_ok 0) aForm.dec_ok (fun x => rfl) 4 (fun x _ => (aForm.nf_ok x _).mpr (aForm.key x _ rfl))
def tab_aForm : List (FuncId × Ct El) := (52, aForm.ct) :: tab_hasData
theorem tab_aForm_ok : TabOk Tryd.prog S tab_aForm := ⟨aForm.ok, by kernel_rfl, tab_hasData_ok⟩

end Go.Aw.W
