/- Contracts of the seat (printed by ct.py). -/
import Derived.Test.YtcpcakglnckpeaaDoorW2
set_option linter.unusedVariables false
set_option linter.unusedSimpArgs false
set_option maxRecDepth 20000
set_option maxHeartbeats 1000000
namespace Go.Aw.W
open Go Go.Aw Go.Proofs
attribute [local irreducible] evCode evFun evOps evDs evOne ctxK loopK loopB subC bodyC headS okH roundK

theorem sized_iff (n : Int) : (sized n = true) = (1 ≤ n ∧ n ≤ 8) := by simp [sized]
/-! math/bits.OnesCount64 -/
def ones1 (x : Int) : Int := IntKind.wrap IntKind.u64 (bandK IntKind.u64 (shrK IntKind.u64 x (1 : Int)) (6148914691236517205 : Int) + bandK IntKind.u64 x (6148914691236517205 : Int))
def ones2 (x : Int) : Int := IntKind.wrap IntKind.u64 (bandK IntKind.u64 (shrK IntKind.u64 x (2 : Int)) (3689348814741910323 : Int) + bandK IntKind.u64 x (3689348814741910323 : Int))
def ones3 (x : Int) : Int := bandK IntKind.u64 (IntKind.wrap IntKind.u64 (shrK IntKind.u64 x (4 : Int) + x)) (1085102592571150095 : Int)
def ones4 (k x : Int) : Int := IntKind.wrap IntKind.u64 (x + shrK IntKind.u64 x k)
def ones (x : Int) : Int := bandK IntKind.i64 (IntKind.wrap IntKind.i64 (ones4 32 (ones4 16 (ones4 8 (ones3 (ones2 (ones1 x))))))) (127 : Int)
def ones.dec (cs : List (AV El)) : Option Int := popI .u64 cs fun a0 c0 => popE c0 a0
def ones.enc (x : Int) : List (AV El) := [.v (.int .u64 x)]
theorem ones.dec_ok : ∀ cs x, ones.dec cs = some x → Imp (S := S) cs (ones.enc x) := by
  intro cs x h
  unfold ones.dec at h
  obtain ⟨a0, c0, rfl, h0⟩ := popI_some (S := S) h
  obtain ⟨rfl, rfl⟩ := popE_some (S := S) h0
  exact (.cons (.refl _))
def ones.ct : Ct El := ctOf ones.dec (fun _ => []) (fun x => .v (.int .i64 (ones x))) (fun _ => [])
theorem ones.nf_ok (x : Int) (K : AV El → List (AObj El) → Prop) : evFun (mkCx Tryd.prog S tab_cwithin 0) 3 100 [.v (.int .u64 x)] [] K = (Ob ((0 : Int) ≤ 1) ∧ Ob ((0 : Int) ≤ 2) ∧ Ob ((0 : Int) ≤ 4) ∧ Ob ((0 : Int) ≤ 8) ∧ Ob ((0 : Int) ≤ 16) ∧ Ob ((0 : Int) ≤ 32) ∧ K (.v (.int .i64 (ones x))) []) := by kernel_rfl
theorem ones.ok : CtOk (mkCx Tryd.prog S [] 0) 100 ones.ct := ct_mk (C := (mkCx Tryd.prog S tab_cwithin 0)) (mkCx_ok sigOk mixed tab_cwithin_ok 0) ones.dec_ok (fun x => rfl) 3 (fun x _ => (ones.nf_ok x _).mpr ⟨⟨by decide⟩, ⟨by decide⟩, ⟨by decide⟩, ⟨by decide⟩, ⟨by decide⟩, ⟨by decide⟩, And.intro (by kernel_rfl) (by kernel_rfl)⟩)

def tab_ones : List (FuncId × Ct El) := (100, ones.ct) :: tab_cwithin
theorem tab_ones_ok : TabOk Tryd.prog S tab_ones := ⟨ones.ok, by kernel_rfl, tab_cwithin_ok⟩

/-! wireless/connect.Encode$1 -/
def cField.res (r : Field) : AV El := Field.av (r)
def cField.news (r : Field) : List (AObj El) := []
def cField (size : Int) (n : Int) : Field := (⟨(size), (IntKind.wrap IntKind.u64 n)⟩ : Field)
def cField.dec (cs : List (AV El)) : Option (Int × Int) := popI .i64 cs fun a0 c0 => popI .i64 c0 fun a1 c1 => popE c1 (a0, a1)
def cField.enc (x : Int × Int) : List (AV El) := [.v (.int .i64 x.1), .v (.int .i64 x.2)]
theorem cField.dec_ok : ∀ cs x, cField.dec cs = some x → Imp (S := S) cs (cField.enc x) := by
  intro cs x h
  unfold cField.dec at h
  obtain ⟨a0, c0, rfl, h0⟩ := popI_some (S := S) h
  obtain ⟨a1, c1, rfl, h1⟩ := popI_some (S := S) h0
  obtain ⟨rfl, rfl⟩ := popE_some (S := S) h1
  exact (.cons (.cons (.refl _)))
def cField.nf (size : Int) (n : Int) (K : AV El → List (AObj El) → Prop) : Prop := K (.agg [.v (.int .i64 (size)), .v (.int .u64 (IntKind.wrap IntKind.u64 n))]) [.cells [.v (.int .i64 (size)), .v (.int .u64 (IntKind.wrap IntKind.u64 n))]]
theorem cField.nf_ok (size : Int) (n : Int) (K : AV El → List (AObj El) → Prop) : evFun (mkCx Tryd.prog S tab_ones 0) 4 80 [.v (.int .i64 size), .v (.int .i64 n)] [] K = cField.nf size n K := by kernel_rfl
theorem cField.key (size : Int) (n : Int) (v : Field) (hv : v = cField size n) : cField.nf size n (fun r' H' => Gives r' H' (cField.res v) (cField.news v)) := by
  unfold cField at hv
  unfold cField.nf
  subst hv; exact And.intro (by kernel_rfl) (by kernel_rfl)
def cField.ct : Ct El := ctOf cField.dec (fun _ => []) (fun x => cField.res (cField x.1 x.2)) (fun x => cField.news (cField x.1 x.2))
theorem cField.ok : CtOk (mkCx Tryd.prog S [] 0) 80 cField.ct := ct_mk (C := (mkCx Tryd.prog S tab_ones 0)) (mkCx_ok sigOk mixed tab_ones_ok 0) cField.dec_ok (fun x => rfl) 4 (fun x _ => (cField.nf_ok x.1 x.2 _).mpr (cField.key x.1 x.2 _ rfl))
def tab_cField : List (FuncId × Ct El) := (80, cField.ct) :: tab_ones
theorem tab_cField_ok : TabOk Tryd.prog S tab_cField := ⟨cField.ok, by kernel_rfl, tab_ones_ok⟩

/-! wireless/connect.CheckUpdate -/
def cCheckUpdate.res (r : Int) : AV El := .v (.int .i64 (r))
def cCheckUpdate.news (r : Int) : List (AObj El) := []
def cCheckUpdate (u : Update) : Int := cond (!cwithin
    [{ n := u.WinSize, low := (1 : Int), high := (8 : Int) : ConnectSpan },
      { n := u.WinOffset, low := (0 : Int), high := (3200 : Int) : ConnectSpan },
      { n := u.Interval, low := (6 : Int), high := (3200 : Int) : ConnectSpan },
      { n := u.Latency, low := (0 : Int), high := (499 : Int) : ConnectSpan },
      { n := u.Timeout, low := (10 : Int), high := (3200 : Int) : ConnectSpan }]) ((5 : Int)) (cond (bif bif decide (u.Interval ≤ u.WinSize) then true else decide (u.Interval < u.WinOffset) then true
else
  decide
    (IntKind.wrap IntKind.i64 (u.Timeout * (10000 : Int)) ≤
      IntKind.wrap IntKind.i64
        (IntKind.wrap IntKind.i64
            (IntKind.wrap IntKind.i64 ((2 : Int) * IntKind.wrap IntKind.i64 (u.Latency + (1 : Int))) * u.Interval) *
          (1250 : Int)))) ((11 : Int)) ((0 : Int)))
def cCheckUpdate.dec (cs : List (AV El)) : Option (Update) := popA Update.dec cs fun a0 c0 => popE c0 a0
def cCheckUpdate.enc (x : Update) : List (AV El) := [Update.av x]
theorem cCheckUpdate.dec_ok : ∀ cs x, cCheckUpdate.dec cs = some x → Imp (S := S) cs (cCheckUpdate.enc x) := by
  intro cs x h
  unfold cCheckUpdate.dec at h
  obtain ⟨a0, c0, h0, k0⟩ := popA_some (S := S) Update.dec_ok h
  obtain ⟨rfl, rfl⟩ := popE_some (S := S) h0
  exact (k0 _ (.refl _))
def cCheckUpdate.nf (u : Update) (K : AV El → List (AObj El) → Prop) : Prop := cond (!cwithin
    [{ n := u.WinSize, low := (1 : Int), high := (8 : Int) : ConnectSpan },
      { n := u.WinOffset, low := (0 : Int), high := (3200 : Int) : ConnectSpan },
      { n := u.Interval, low := (6 : Int), high := (3200 : Int) : ConnectSpan },
      { n := u.Latency, low := (0 : Int), high := (499 : Int) : ConnectSpan },
      { n := u.Timeout, low := (10 : Int), high := (3200 : Int) : ConnectSpan }]) (K (.v (.int .i64 ((5 : Int)))) [.cells [.v (.int .i64 (u.WinSize)), .v (.int .i64 (u.WinOffset)), .v (.int .i64 (u.Interval)), .v (.int .i64 (u.Latency)), .v (.int .i64 (u.Timeout))], .row 100 ([{ n := u.WinSize, low := (1 : Int), high := (8 : Int) : ConnectSpan },
  { n := u.WinOffset, low := (0 : Int), high := (3200 : Int) : ConnectSpan },
  { n := u.Interval, low := (6 : Int), high := (3200 : Int) : ConnectSpan },
  { n := u.Latency, low := (0 : Int), high := (499 : Int) : ConnectSpan },
  { n := u.Timeout, low := (10 : Int), high := (3200 : Int) : ConnectSpan }] : List (El 100))]) (Ob (o3 (!decide (u.Interval ≤ u.WinSize))) ∧ (Ob (o3 (!decide (u.Interval ≤ u.WinSize))) ∧ (Ob (o3 (!decide (u.Interval ≤ u.WinSize))) ∧ (Ob (o3 (!decide (u.Interval ≤ u.WinSize))) ∧ (Ob (on (decide (u.Interval ≤ u.WinSize))) ∧ (Ob (o3 (!bif decide (u.Interval ≤ u.WinSize) then true else decide (u.Interval < u.WinOffset))) ∧ (Ob (o3 (!bif decide (u.Interval ≤ u.WinSize) then true else decide (u.Interval < u.WinOffset))) ∧ (Ob (o3 (!bif decide (u.Interval ≤ u.WinSize) then true else decide (u.Interval < u.WinOffset))) ∧ (Ob (o3 (!bif decide (u.Interval ≤ u.WinSize) then true else decide (u.Interval < u.WinOffset))) ∧ (Ob (o3 (!bif decide (u.Interval ≤ u.WinSize) then true else decide (u.Interval < u.WinOffset))) ∧ (Ob (o3 (!bif decide (u.Interval ≤ u.WinSize) then true else decide (u.Interval < u.WinOffset))) ∧ (Ob (o3 (!bif decide (u.Interval ≤ u.WinSize) then true else decide (u.Interval < u.WinOffset))) ∧ (Ob (o3 (!bif decide (u.Interval ≤ u.WinSize) then true else decide (u.Interval < u.WinOffset))) ∧ (Ob (o3 (!bif decide (u.Interval ≤ u.WinSize) then true else decide (u.Interval < u.WinOffset))) ∧ (Ob (o3 (!bif decide (u.Interval ≤ u.WinSize) then true else decide (u.Interval < u.WinOffset))) ∧ (Ob (o3 (!bif decide (u.Interval ≤ u.WinSize) then true else decide (u.Interval < u.WinOffset))) ∧ (Ob (on (bif decide (u.Interval ≤ u.WinSize) then true else decide (u.Interval < u.WinOffset))) ∧ (cond (bif bif decide (u.Interval ≤ u.WinSize) then true else decide (u.Interval < u.WinOffset) then true
else
  decide
    (IntKind.wrap IntKind.i64 (u.Timeout * (10000 : Int)) ≤
      IntKind.wrap IntKind.i64
        (IntKind.wrap IntKind.i64
            (IntKind.wrap IntKind.i64 ((2 : Int) * IntKind.wrap IntKind.i64 (u.Latency + (1 : Int))) * u.Interval) *
          (1250 : Int)))) (K (.v (.int .i64 ((11 : Int)))) [.cells [.v (.int .i64 (u.WinSize)), .v (.int .i64 (u.WinOffset)), .v (.int .i64 (u.Interval)), .v (.int .i64 (u.Latency)), .v (.int .i64 (u.Timeout))], .row 100 ([{ n := u.WinSize, low := (1 : Int), high := (8 : Int) : ConnectSpan },
  { n := u.WinOffset, low := (0 : Int), high := (3200 : Int) : ConnectSpan },
  { n := u.Interval, low := (6 : Int), high := (3200 : Int) : ConnectSpan },
  { n := u.Latency, low := (0 : Int), high := (499 : Int) : ConnectSpan },
  { n := u.Timeout, low := (10 : Int), high := (3200 : Int) : ConnectSpan }] : List (El 100))]) (K (.v (.int .i64 ((0 : Int)))) [.cells [.v (.int .i64 (u.WinSize)), .v (.int .i64 (u.WinOffset)), .v (.int .i64 (u.Interval)), .v (.int .i64 (u.Latency)), .v (.int .i64 (u.Timeout))], .row 100 ([{ n := u.WinSize, low := (1 : Int), high := (8 : Int) : ConnectSpan },
  { n := u.WinOffset, low := (0 : Int), high := (3200 : Int) : ConnectSpan },
  { n := u.Interval, low := (6 : Int), high := (3200 : Int) : ConnectSpan },
  { n := u.Latency, low := (0 : Int), high := (499 : Int) : ConnectSpan },
  { n := u.Timeout, low := (10 : Int), high := (3200 : Int) : ConnectSpan }] : List (El 100))])))))))))))))))))))
theorem cCheckUpdate.nf_ok (u : Update) (K : AV El → List (AObj El) → Prop) : evFun (mkCx Tryd.prog S tab_ones 0) 4 74 [Update.av u] [] K = cCheckUpdate.nf u K := by kernel_rfl
theorem cCheckUpdate.key (u : Update) (v : Int) (hv : v = cCheckUpdate u) : cCheckUpdate.nf u (fun r' H' => Gives r' H' (cCheckUpdate.res v) (cCheckUpdate.news v)) := by
  unfold cCheckUpdate at hv
  unfold cCheckUpdate.nf
  revert hv; refine by_cond2 (fun hb hv => ?_) (fun hb hv => ?_)
  · subst hv; exact And.intro (by kernel_rfl) (by kernel_rfl)
  · refine ⟨⟨o3_ok _⟩, ?_⟩
    refine ⟨⟨o3_ok _⟩, ?_⟩
    refine ⟨⟨o3_ok _⟩, ?_⟩
    refine ⟨⟨o3_ok _⟩, ?_⟩
    refine ⟨⟨on_ok _⟩, ?_⟩
    refine ⟨⟨o3_ok _⟩, ?_⟩
    refine ⟨⟨o3_ok _⟩, ?_⟩
    refine ⟨⟨o3_ok _⟩, ?_⟩
    refine ⟨⟨o3_ok _⟩, ?_⟩
    refine ⟨⟨o3_ok _⟩, ?_⟩
    refine ⟨⟨o3_ok _⟩, ?_⟩
    refine ⟨⟨o3_ok _⟩, ?_⟩
    refine ⟨⟨o3_ok _⟩, ?_⟩
    refine ⟨⟨o3_ok _⟩, ?_⟩
    refine ⟨⟨o3_ok _⟩, ?_⟩
    refine ⟨⟨o3_ok _⟩, ?_⟩
    refine ⟨⟨on_ok _⟩, ?_⟩
    revert hv; refine by_cond2 (fun hb hv => ?_) (fun hb hv => ?_)
    · subst hv; exact And.intro (by kernel_rfl) (by kernel_rfl)
    · subst hv; exact And.intro (by kernel_rfl) (by kernel_rfl)
def cCheckUpdate.ct : Ct El := ctOf cCheckUpdate.dec (fun _ => []) (fun x => cCheckUpdate.res (cCheckUpdate x)) (fun x => cCheckUpdate.news (cCheckUpdate x))
theorem cCheckUpdate.ok : CtOk (mkCx Tryd.prog S [] 0) 74 cCheckUpdate.ct := ct_mk (C := (mkCx Tryd.prog S tab_ones 0)) (mkCx_ok sigOk mixed tab_ones_ok 0) cCheckUpdate.dec_ok (fun x => rfl) 4 (fun x _ => (cCheckUpdate.nf_ok x _).mpr (cCheckUpdate.key x _ rfl))
def tab_cCheckUpdate : List (FuncId × Ct El) := (74, cCheckUpdate.ct) :: tab_cField
theorem tab_cCheckUpdate_ok : TabOk Tryd.prog S tab_cCheckUpdate := ⟨cCheckUpdate.ok, by kernel_rfl, tab_cField_ok⟩

/-! wireless/octets.Put -/
def oPut.res (r : (List Int) × Int) : AV El := .tup [.gs 0, .v (.int .i64 (r.2))]
def oPut.news (r : (List Int) × Int) : List (AObj El) := [.row 5 (r.1 : List (El 5))]
def oPut.igo (fields : List Field) (i : Int) (out : List Int) : Nat → Int → (List Int) → Int × (List Int)
  | 0, _, _ => (0, [])
  | n0 + 1, k, o2 => cond (decide (k < (List.getD fields (Int.toNat i) Field.zero).Size)) (oPut.igo fields i out n0 (IntKind.wrap IntKind.i64 (k + (1 : Int))) (o2 ++
  [IntKind.wrap IntKind.u8
      (shrK IntKind.u64 (List.getD fields (Int.toNat i) Field.zero).Value (IntKind.wrap IntKind.i64 ((8 : Int) * k)))])) ((k, o2))
def oPut.ihd (fields : List Field) (i : Int) (out : List Int) (k : Int) (o2 : List Int) : St El := { lo := 0, slots := [(34, .v (.int .i64 (k))), (33, .v (.int .i64 ((List.getD fields (Int.toNat i) Field.zero).Size))), (10, .v (.int .i64 (i))), (9, .v (.int .i64 ((↑(List.length fields) : Int)))), (8, .sl 95 (fields : List (El 95)) false), (4, .gs 0), (6, .ref 1 0)], n := 49, objs := [.row 5 (o2 : List (El 5)), .cells [.v (.int .i64 ((List.getD fields (Int.toNat i) Field.zero).Size)), .v (.int .u64 ((List.getD fields (Int.toNat i) Field.zero).Value))]] }
def oPut.ix (fields : List Field) (i : Int) (out : List Int) (k : Int) (o2 : List Int) : St El := { lo := 0, slots := [(35, .v (.bool (decide (k < (List.getD fields (Int.toNat i) Field.zero).Size)))), (34, .v (.int .i64 (k))), (33, .v (.int .i64 ((List.getD fields (Int.toNat i) Field.zero).Size))), (10, .v (.int .i64 (i))), (9, .v (.int .i64 ((↑(List.length fields) : Int)))), (8, .sl 95 (fields : List (El 95)) false), (4, .gs 0), (6, .ref 1 0)], n := 49, objs := [.row 5 (o2 : List (El 5)), .cells [.v (.int .i64 ((List.getD fields (Int.toNat i) Field.zero).Size)), .v (.int .u64 ((List.getD fields (Int.toNat i) Field.zero).Value))]] }
def oPut.ist (fields : List Field) (i : Int) (out : List Int) (k : Int) (o2 : List Int) (J : St El → Prop) (K : AExit → St El → Prop) : Prop := cond (decide (k < (List.getD fields (Int.toNat i) Field.zero).Size)) (Ob ((0 : Int) ≤ IntKind.wrap IntKind.i64 ((8 : Int) * k)) ∧ (Ob ((List.length o2 +
      List.length
        [IntKind.wrap IntKind.u8
            (shrK IntKind.u64 (List.getD fields (Int.toNat i) Field.zero).Value
              (IntKind.wrap IntKind.i64 ((8 : Int) * k)))]) *
    (1 : Nat) ≤
  (140737488355328 : Nat)) ∧ (J (oPut.ihd fields i out (IntKind.wrap IntKind.i64 (k + (1 : Int))) (o2 ++
  [IntKind.wrap IntKind.u8
      (shrK IntKind.u64 (List.getD fields (Int.toNat i) Field.zero).Value (IntKind.wrap IntKind.i64 ((8 : Int) * k)))]))))) (K (.exit 2) (oPut.ix fields i out (k) (o2)))
theorem oPut.ist_ok (fields : List Field) (i : Int) (out : List Int) (k : Int) (o2 : List Int) (J : St El → Prop) (K : AExit → St El → Prop) : evCode (mkCx Tryd.prog S tab_cCheckUpdate 0) (evFun (mkCx Tryd.prog S tab_cCheckUpdate 0) 3) (fstC (subC [true, true, false, false, true, true, true, false] (loopB Tryd.prog 73 [true, true, false, true, false]))) (oPut.ihd fields i out k o2) (roundK (C := (mkCx Tryd.prog S tab_cCheckUpdate 0)) [34, 33, 10, 9, 8, 4, 6] [] J K) = oPut.ist fields i out k o2 J K := by kernel_rfl
def oPut.irng (fields : List Field) (i : Int) (out : List Int) (n0 : Nat) (k : Int) (o2 : List Int) : Prop := 0 ≤ k ∧ k ≤ (fields.getD i.toNat Field.zero).Size ∧ (fields.getD i.toNat Field.zero).Size ≤ 8 ∧ ((fields.getD i.toNat Field.zero).Size - k).toNat < n0 ∧ o2.length = out.length + k.toNat ∧ out.length ≤ 8796093022208
theorem oPut.ilp (fields : List Field) (i : Int) (out : List Int) (n0 : Nat) (k : Int) (o2 : List Int) (h0 : oPut.irng fields i out n0 k o2) (st : St El) (q1 : okH [34, 33, 10, 9, 8, 4, 6] [] st = true) (q2 : headS [34, 33, 10, 9, 8, 4, 6] [] st = oPut.ihd fields i out k o2) (K : AExit → St El → Prop) (w : Int × (List Int)) (hw : w = oPut.igo fields i out n0 k o2) (hk : ∀ m0, oPut.irng fields i out m0 (w.1) (w.2) → K (.exit 2) (oPut.ix fields i out (w.1) (w.2))) : evCode (mkCx Tryd.prog S tab_cCheckUpdate 0) (evFun (mkCx Tryd.prog S tab_cCheckUpdate 0) 3) (.loop (fstC (subC [true, true, false, false, true, true, true, false] (loopB Tryd.prog 73 [true, true, false, true, false])))) st K := by
  refine loop_ev rfl (evFun_mono _ _) [34, 33, 10, 9, 8, 4, 6] [] (X := Nat × Int × (List Int)) (fun x => oPut.ihd fields i out x.2.1 x.2.2) (fun x => x.1) (fun x => oPut.irng fields i out x.1 x.2.1 x.2.2 ∧ w = oPut.igo fields i out x.1 x.2.1 x.2.2) (n0, k, o2) ⟨q1, q2⟩ ⟨h0, hw⟩ ?_
  clear h0 hw q1 q2
  rintro ⟨n0, k, o2⟩ ⟨hr, hv⟩
  dsimp only at hr hv
  cases n0 with
  | zero => exact absurd hr (by unfold oPut.irng; omega)
  | succ n0 =>
  unfold oPut.irng at hr
  unfold oPut.igo at hv
  refine (oPut.ist_ok fields i out k o2 _ _).mpr ?_
  unfold oPut.ist
  revert hv; refine by_cond2 (fun hb hv => ?_) (fun hb hv => ?_)
  · refine ⟨⟨by (try clear hv); (try clear q1 q2); (try clear hk); (first | omega | ((try simp only [decide_eq_true_eq, decide_eq_false_iff_not, Bool.not_eq_true, Bool.not_eq_false, Bool.and_eq_true, Bool.or_eq_true, Bool.not_not, cond_and, cond_or, List.length_append, List.length_cons, List.length_nil] at *); have := wi64s ((8 : Int) * k); (first | omega | (intros; (try simp only [Bool.not_not, cond_and, cond_or, Bool.and_eq_true, decide_eq_true_eq] at *); (exact band_nn rfl _ _)) | (intros; (try simp only [Bool.not_not, cond_and, cond_or, Bool.and_eq_true, decide_eq_true_eq] at *); (exact (wu64s _).2.1)) | (intros; (try simp only [Bool.not_not, cond_and, cond_or, Bool.and_eq_true, decide_eq_true_eq] at *); (simp only [Bool.or_eq_false_iff, Bool.and_eq_false_iff, decide_eq_false_iff_not, decide_eq_true_eq, bne_iff_ne, beq_iff_eq, bne_eq_false_iff_eq, beq_eq_false_iff_ne, ne_eq, true_and] at *; omega)) | (intros; (try simp only [Bool.not_not, cond_and, cond_or, Bool.and_eq_true, decide_eq_true_eq] at *); (simp only [List.length_drop, List.length_take, List.length_append, List.length_cons, List.length_nil] at *; omega)) | (intros; omega) | (intros; simp only [sized_iff, Bool.not_not, cond_and, cond_or, Bool.and_eq_true, decide_eq_true_eq] at *; omega) | (intros; simp_all [sized_iff, Bool.not_not]; done))))⟩, ?_⟩
    refine ⟨⟨by (try clear hv); (try clear q1 q2); (try clear hk); (first | omega | ((try simp only [decide_eq_true_eq, decide_eq_false_iff_not, Bool.not_eq_true, Bool.not_eq_false, Bool.and_eq_true, Bool.or_eq_true, Bool.not_not, cond_and, cond_or, List.length_append, List.length_cons, List.length_nil] at *); have := wi64s ((8 : Int) * k); (first | omega | (intros; (try simp only [Bool.not_not, cond_and, cond_or, Bool.and_eq_true, decide_eq_true_eq] at *); (exact band_nn rfl _ _)) | (intros; (try simp only [Bool.not_not, cond_and, cond_or, Bool.and_eq_true, decide_eq_true_eq] at *); (exact (wu64s _).2.1)) | (intros; (try simp only [Bool.not_not, cond_and, cond_or, Bool.and_eq_true, decide_eq_true_eq] at *); (simp only [Bool.or_eq_false_iff, Bool.and_eq_false_iff, decide_eq_false_iff_not, decide_eq_true_eq, bne_iff_ne, beq_iff_eq, bne_eq_false_iff_eq, beq_eq_false_iff_ne, ne_eq, true_and] at *; omega)) | (intros; (try simp only [Bool.not_not, cond_and, cond_or, Bool.and_eq_true, decide_eq_true_eq] at *); (simp only [List.length_drop, List.length_take, List.length_append, List.length_cons, List.length_nil] at *; omega)) | (intros; omega) | (intros; simp only [sized_iff, Bool.not_not, cond_and, cond_or, Bool.and_eq_true, decide_eq_true_eq] at *; omega) | (intros; simp_all [sized_iff, Bool.not_not]; done))))⟩, ?_⟩
    exact ⟨(n0, (IntKind.wrap IntKind.i64 (k + (1 : Int))), (o2 ++
  [IntKind.wrap IntKind.u8
      (shrK IntKind.u64 (List.getD fields (Int.toNat i) Field.zero).Value (IntKind.wrap IntKind.i64 ((8 : Int) * k)))])), (by kernel_rfl), Nat.lt_succ_self n0, (by dsimp only; unfold oPut.irng; (try clear hv); (try clear q1 q2); (try clear hk); (simp only [decide_eq_true_eq, List.length_append, List.length_cons, List.length_nil] at *; have := wi64s (k + (1 : Int)); omega)), hv⟩
  · subst hv; exact hk (n0 + 1) (by unfold oPut.irng; exact hr)
def oPut.go (fields : List Field) : Nat → Int → (List Int) → (List Int) × Int
  | 0, _, _ => ([], 0)
  | n0 + 1, i, out => cond (decide (i < (↑(List.length fields) : Int))) (cond (bif !sized (List.getD fields (Int.toNat i) Field.zero).Size then true
else
  bif decide ((List.getD fields (Int.toNat i) Field.zero).Size < (8 : Int)) then
    shrK IntKind.u64 (List.getD fields (Int.toNat i) Field.zero).Value
        (IntKind.wrap IntKind.i64 ((8 : Int) * (List.getD fields (Int.toNat i) Field.zero).Size)) !=
      (0 : Int)
  else false) (([], (5 : Int))) (oPut.go fields n0 (IntKind.wrap IntKind.i64 (i + (1 : Int))) (((oPut.igo fields i out ((fields.getD i.toNat Field.zero).Size.toNat + 1) ((0 : Int)) (out)).2)))) ((out, (0 : Int)))
def oPut.hd (fields : List Field) (i : Int) (out : List Int) : St El := { lo := 0, slots := [(10, .v (.int .i64 (i))), (9, .v (.int .i64 ((↑(List.length fields) : Int)))), (8, .sl 95 (fields : List (El 95)) false), (4, .gs 0)], n := 49, objs := [.row 5 (out : List (El 5))] }
def oPut.st (fields : List Field) (i : Int) (out : List Int) (J : St El → Prop) (K : AV El → List (AObj El) → Prop) : Prop := cond (decide (i < (↑(List.length fields) : Int))) (Ob ((0 : Int) ≤ i ∧ i < (↑(List.length fields) : Int)) ∧ (Ob (o3 (!!sized (List.getD fields (Int.toNat i) Field.zero).Size)) ∧ (Ob (o3 (!!sized (List.getD fields (Int.toNat i) Field.zero).Size)) ∧ (Ob (o3 (!!sized (List.getD fields (Int.toNat i) Field.zero).Size)) ∧ (Ob (o3 (!!sized (List.getD fields (Int.toNat i) Field.zero).Size &&
  decide ((List.getD fields (Int.toNat i) Field.zero).Size < (8 : Int)))) ∧ (Ob (o3 (!!sized (List.getD fields (Int.toNat i) Field.zero).Size &&
  decide ((List.getD fields (Int.toNat i) Field.zero).Size < (8 : Int)))) ∧ (Ob (o3 (!!sized (List.getD fields (Int.toNat i) Field.zero).Size &&
  decide ((List.getD fields (Int.toNat i) Field.zero).Size < (8 : Int)))) ∧ (Ob (o3 (!!sized (List.getD fields (Int.toNat i) Field.zero).Size &&
  decide ((List.getD fields (Int.toNat i) Field.zero).Size < (8 : Int)))) ∧ (Ob (o3 (!!sized (List.getD fields (Int.toNat i) Field.zero).Size &&
  decide ((List.getD fields (Int.toNat i) Field.zero).Size < (8 : Int)))) ∧ (Ob ((!!sized (List.getD fields (Int.toNat i) Field.zero).Size &&
      decide ((List.getD fields (Int.toNat i) Field.zero).Size < (8 : Int))) =
    true →
  (0 : Int) ≤ IntKind.wrap IntKind.i64 ((8 : Int) * (List.getD fields (Int.toNat i) Field.zero).Size)) ∧ (Ob (o3 (!!sized (List.getD fields (Int.toNat i) Field.zero).Size &&
  decide ((List.getD fields (Int.toNat i) Field.zero).Size < (8 : Int)))) ∧ (Ob (o2 (!!sized (List.getD fields (Int.toNat i) Field.zero).Size)) ∧ (Ob ((!!sized (List.getD fields (Int.toNat i) Field.zero).Size) = true →
  decide ((List.getD fields (Int.toNat i) Field.zero).Size < (8 : Int)) = true →
    (!!sized (List.getD fields (Int.toNat i) Field.zero).Size &&
        decide ((List.getD fields (Int.toNat i) Field.zero).Size < (8 : Int))) =
      true) ∧ (Ob (on (!sized (List.getD fields (Int.toNat i) Field.zero).Size)) ∧ (cond (bif !sized (List.getD fields (Int.toNat i) Field.zero).Size then true
else
  bif decide ((List.getD fields (Int.toNat i) Field.zero).Size < (8 : Int)) then
    shrK IntKind.u64 (List.getD fields (Int.toNat i) Field.zero).Value
        (IntKind.wrap IntKind.i64 ((8 : Int) * (List.getD fields (Int.toNat i) Field.zero).Size)) !=
      (0 : Int)
  else false) (K (.tup [.v (.slice none 0 0), .v (.int .i64 ((5 : Int)))]) [.row 5 (out : List (El 5)), .cells [.v (.int .i64 ((List.getD fields (Int.toNat i) Field.zero).Size)), .v (.int .u64 ((List.getD fields (Int.toNat i) Field.zero).Value))]]) (evCode (mkCx Tryd.prog S tab_cCheckUpdate 0) (evFun (mkCx Tryd.prog S tab_cCheckUpdate 0) 3) (.loop (fstC (subC [true, true, false, false, true, true, true, false] (loopB Tryd.prog 73 [true, true, false, true, false])))) ({ lo := 0, slots := [(34, .v (.int .i64 ((0 : Int)))), (33, .v (.int .i64 ((List.getD fields (Int.toNat i) Field.zero).Size))), (32, .ref 1 0), (31, .v (.bool (bif !sized (List.getD fields (Int.toNat i) Field.zero).Size then true
else
  bif decide ((List.getD fields (Int.toNat i) Field.zero).Size < (8 : Int)) then
    shrK IntKind.u64 (List.getD fields (Int.toNat i) Field.zero).Value
        (IntKind.wrap IntKind.i64 ((8 : Int) * (List.getD fields (Int.toNat i) Field.zero).Size)) !=
      (0 : Int)
  else false))), (30, .gd (!!sized (List.getD fields (Int.toNat i) Field.zero).Size) (.v (.bool (bif decide ((List.getD fields (Int.toNat i) Field.zero).Size < (8 : Int)) then
  shrK IntKind.u64 (List.getD fields (Int.toNat i) Field.zero).Value
      (IntKind.wrap IntKind.i64 ((8 : Int) * (List.getD fields (Int.toNat i) Field.zero).Size)) !=
    (0 : Int)
else false)))), (29, .gd (!!sized (List.getD fields (Int.toNat i) Field.zero).Size &&
  decide ((List.getD fields (Int.toNat i) Field.zero).Size < (8 : Int))) (.v (.bool (shrK IntKind.u64 (List.getD fields (Int.toNat i) Field.zero).Value
    (IntKind.wrap IntKind.i64 ((8 : Int) * (List.getD fields (Int.toNat i) Field.zero).Size)) !=
  (0 : Int))))), (28, .gd (!!sized (List.getD fields (Int.toNat i) Field.zero).Size &&
  decide ((List.getD fields (Int.toNat i) Field.zero).Size < (8 : Int))) (.v (.int .u64 (shrK IntKind.u64 (List.getD fields (Int.toNat i) Field.zero).Value
  (IntKind.wrap IntKind.i64 ((8 : Int) * (List.getD fields (Int.toNat i) Field.zero).Size)))))), (27, .gd (!!sized (List.getD fields (Int.toNat i) Field.zero).Size &&
  decide ((List.getD fields (Int.toNat i) Field.zero).Size < (8 : Int))) (.v (.int .i64 (IntKind.wrap IntKind.i64 ((8 : Int) * (List.getD fields (Int.toNat i) Field.zero).Size))))), (26, .gd (!!sized (List.getD fields (Int.toNat i) Field.zero).Size &&
  decide ((List.getD fields (Int.toNat i) Field.zero).Size < (8 : Int))) (.v (.int .i64 ((List.getD fields (Int.toNat i) Field.zero).Size)))), (25, .gd (!!sized (List.getD fields (Int.toNat i) Field.zero).Size &&
  decide ((List.getD fields (Int.toNat i) Field.zero).Size < (8 : Int))) (.ref 1 0)), (24, .gd (!!sized (List.getD fields (Int.toNat i) Field.zero).Size &&
  decide ((List.getD fields (Int.toNat i) Field.zero).Size < (8 : Int))) (.v (.int .u64 ((List.getD fields (Int.toNat i) Field.zero).Value)))), (23, .gd (!!sized (List.getD fields (Int.toNat i) Field.zero).Size &&
  decide ((List.getD fields (Int.toNat i) Field.zero).Size < (8 : Int))) (.ref 1 1)), (22, .gd (!!sized (List.getD fields (Int.toNat i) Field.zero).Size) (.v (.bool (decide ((List.getD fields (Int.toNat i) Field.zero).Size < (8 : Int)))))), (21, .gd (!!sized (List.getD fields (Int.toNat i) Field.zero).Size) (.v (.bool (decide ((List.getD fields (Int.toNat i) Field.zero).Size < (8 : Int)))))), (20, .gd (!!sized (List.getD fields (Int.toNat i) Field.zero).Size) (.v (.int .i64 ((List.getD fields (Int.toNat i) Field.zero).Size)))), (19, .gd (!!sized (List.getD fields (Int.toNat i) Field.zero).Size) (.ref 1 0)), (18, .v (.bool (!sized (List.getD fields (Int.toNat i) Field.zero).Size))), (17, .v (.bool (!sized (List.getD fields (Int.toNat i) Field.zero).Size))), (16, .v (.bool (sized (List.getD fields (Int.toNat i) Field.zero).Size))), (15, .v (.int .i64 ((List.getD fields (Int.toNat i) Field.zero).Size))), (14, .ref 1 0), (6, .ref 1 0), (13, .agg [.v (.int .i64 ((List.getD fields (Int.toNat i) Field.zero).Size)), .v (.int .u64 ((List.getD fields (Int.toNat i) Field.zero).Value))]), (12, .rp 95 (List.getD fields (Int.toNat i) Field.zero) 0), (11, .v (.bool (decide (i < (↑(List.length fields) : Int))))), (10, .v (.int .i64 (i))), (9, .v (.int .i64 ((↑(List.length fields) : Int)))), (8, .sl 95 (fields : List (El 95)) false), (4, .gs 0)], n := 49, objs := [.row 5 (out : List (El 5)), .cells [.v (.int .i64 ((List.getD fields (Int.toNat i) Field.zero).Size)), .v (.int .u64 ((List.getD fields (Int.toNat i) Field.zero).Value))]] }) (ctxK (mkCx Tryd.prog S tab_cCheckUpdate 0) (evFun (mkCx Tryd.prog S tab_cCheckUpdate 0) 3) [true, true, false, false, true, true, true, false] (loopB Tryd.prog 73 [true, true, false, true, false]) (roundK (C := (mkCx Tryd.prog S tab_cCheckUpdate 0)) [10, 9, 8, 4] [.slot 4 5] J (loopK (mkCx Tryd.prog S tab_cCheckUpdate 0) 3 73 [true, true, false, true, false] K))))))))))))))))))) (K (.tup [.gs 0, .v (.int .i64 ((0 : Int)))]) [.row 5 (out : List (El 5))])
theorem oPut.st_ok (fields : List Field) (i : Int) (out : List Int) (J : St El → Prop) (K : AV El → List (AObj El) → Prop) : evCode (mkCx Tryd.prog S tab_cCheckUpdate 0) (evFun (mkCx Tryd.prog S tab_cCheckUpdate 0) 3) (loopB Tryd.prog 73 [true, true, false, true, false]) (oPut.hd fields i out) (roundK (C := (mkCx Tryd.prog S tab_cCheckUpdate 0)) [10, 9, 8, 4] [.slot 4 5] J (loopK (mkCx Tryd.prog S tab_cCheckUpdate 0) 3 73 [true, true, false, true, false] K)) = oPut.st fields i out J K := by kernel_rfl
def oPut.st2 (fields : List Field) (i : Int) (out : List Int) (k : Int) (o2 : List Int) (J : St El → Prop) (K : AV El → List (AObj El) → Prop) : Prop := J (oPut.hd fields (IntKind.wrap IntKind.i64 (i + (1 : Int))) (o2))
theorem oPut.st2_ok (fields : List Field) (i : Int) (out : List Int) (k : Int) (o2 : List Int) (J : St El → Prop) (K : AV El → List (AObj El) → Prop) : (ctxK (mkCx Tryd.prog S tab_cCheckUpdate 0) (evFun (mkCx Tryd.prog S tab_cCheckUpdate 0) 3) [true, true, false, false, true, true, true, false] (loopB Tryd.prog 73 [true, true, false, true, false]) (roundK (C := (mkCx Tryd.prog S tab_cCheckUpdate 0)) [10, 9, 8, 4] [.slot 4 5] J (loopK (mkCx Tryd.prog S tab_cCheckUpdate 0) 3 73 [true, true, false, true, false] K))) (.exit 2) (oPut.ix fields i out k o2) = oPut.st2 fields i out k o2 J K := by kernel_rfl
def oPut.rng (fields : List Field) (n0 : Nat) (i : Int) (out : List Int) : Prop := 0 ≤ i ∧ i ≤ fields.length ∧ (fields.length - i).toNat < n0 ∧ fields.length ≤ 1099511627776 ∧ out.length ≤ 8 * i
theorem oPut.lp (fields : List Field) (hp : fields.length ≤ 1099511627776) (v : (List Int) × Int) (n0 : Nat) (i : Int) (out : List Int) (hv : v = oPut.go fields n0 i out) (h0 : oPut.rng fields n0 i out) (st : St El) (q1 : okH [10, 9, 8, 4] [.slot 4 5] st = true) (q2 : headS [10, 9, 8, 4] [.slot 4 5] st = oPut.hd fields i out) : evCode (mkCx Tryd.prog S tab_cCheckUpdate 0) (evFun (mkCx Tryd.prog S tab_cCheckUpdate 0) 3) (.loop (loopB Tryd.prog 73 [true, true, false, true, false])) st (loopK (mkCx Tryd.prog S tab_cCheckUpdate 0) 3 73 [true, true, false, true, false] (fun r' H' => Gives r' H' (oPut.res v) (oPut.news v))) := by
  refine loop_ev rfl (evFun_mono _ _) [10, 9, 8, 4] [.slot 4 5] (X := Nat × Int × (List Int)) (fun x => oPut.hd fields x.2.1 x.2.2) (fun x => x.1) (fun x => oPut.rng fields x.1 x.2.1 x.2.2 ∧ v = oPut.go fields x.1 x.2.1 x.2.2) (n0, i, out) ⟨q1, q2⟩ ⟨h0, hv⟩ ?_
  clear h0 hv q1 q2
  rintro ⟨n0, i, out⟩ ⟨hr, hv⟩
  dsimp only at hr hv
  cases n0 with
  | zero => exact absurd hr (by unfold oPut.rng; omega)
  | succ n0 =>
  unfold oPut.rng at hr
  unfold oPut.go at hv
  refine (oPut.st_ok fields i out _ _).mpr ?_
  unfold oPut.st
  revert hv; refine by_cond2 (fun hb hv => ?_) (fun hb hv => ?_)
  · refine ⟨⟨by (try clear hv); (try clear q1 q2); (try clear hk); (first | omega | ((try simp only [decide_eq_true_eq, decide_eq_false_iff_not, Bool.not_eq_true, Bool.not_eq_false, Bool.and_eq_true, Bool.or_eq_true, Bool.not_not, cond_and, cond_or, List.length_append, List.length_cons, List.length_nil] at *); (first | omega | (intros; (try simp only [Bool.not_not, cond_and, cond_or, Bool.and_eq_true, decide_eq_true_eq] at *); (exact band_nn rfl _ _)) | (intros; (try simp only [Bool.not_not, cond_and, cond_or, Bool.and_eq_true, decide_eq_true_eq] at *); (exact (wu64s _).2.1)) | (intros; (try simp only [Bool.not_not, cond_and, cond_or, Bool.and_eq_true, decide_eq_true_eq] at *); (simp only [Bool.or_eq_false_iff, Bool.and_eq_false_iff, decide_eq_false_iff_not, decide_eq_true_eq, bne_iff_ne, beq_iff_eq, bne_eq_false_iff_eq, beq_eq_false_iff_ne, ne_eq, true_and] at *; omega)) | (intros; (try simp only [Bool.not_not, cond_and, cond_or, Bool.and_eq_true, decide_eq_true_eq] at *); (simp only [List.length_drop, List.length_take, List.length_append, List.length_cons, List.length_nil] at *; omega)) | (intros; omega) | (intros; simp only [sized_iff, Bool.not_not, cond_and, cond_or, Bool.and_eq_true, decide_eq_true_eq] at *; omega) | (intros; simp_all [sized_iff, Bool.not_not]; done))))⟩, ?_⟩
    refine ⟨⟨o3_ok _⟩, ?_⟩
    refine ⟨⟨o3_ok _⟩, ?_⟩
    refine ⟨⟨o3_ok _⟩, ?_⟩
    refine ⟨⟨o3_ok _⟩, ?_⟩
    refine ⟨⟨o3_ok _⟩, ?_⟩
    refine ⟨⟨o3_ok _⟩, ?_⟩
    refine ⟨⟨o3_ok _⟩, ?_⟩
    refine ⟨⟨o3_ok _⟩, ?_⟩
    refine ⟨⟨by (try clear hv); (try clear q1 q2); (try clear hk); (first | omega | ((try simp only [decide_eq_true_eq, decide_eq_false_iff_not, Bool.not_eq_true, Bool.not_eq_false, Bool.and_eq_true, Bool.or_eq_true, Bool.not_not, cond_and, cond_or, List.length_append, List.length_cons, List.length_nil] at *); have := wi64s ((8 : Int) * (List.getD fields (Int.toNat i) Field.zero).Size); (first | omega | (intros; (try simp only [Bool.not_not, cond_and, cond_or, Bool.and_eq_true, decide_eq_true_eq] at *); (exact band_nn rfl _ _)) | (intros; (try simp only [Bool.not_not, cond_and, cond_or, Bool.and_eq_true, decide_eq_true_eq] at *); (exact (wu64s _).2.1)) | (intros; (try simp only [Bool.not_not, cond_and, cond_or, Bool.and_eq_true, decide_eq_true_eq] at *); (simp only [Bool.or_eq_false_iff, Bool.and_eq_false_iff, decide_eq_false_iff_not, decide_eq_true_eq, bne_iff_ne, beq_iff_eq, bne_eq_false_iff_eq, beq_eq_false_iff_ne, ne_eq, true_and] at *; omega)) | (intros; (try simp only [Bool.not_not, cond_and, cond_or, Bool.and_eq_true, decide_eq_true_eq] at *); (simp only [List.length_drop, List.length_take, List.length_append, List.length_cons, List.length_nil] at *; omega)) | (intros; omega) | (intros; simp only [sized_iff, Bool.not_not, cond_and, cond_or, Bool.and_eq_true, decide_eq_true_eq] at *; omega) | (intros; simp_all [sized_iff, Bool.not_not]; done))))⟩, ?_⟩
    refine ⟨⟨o3_ok _⟩, ?_⟩
    refine ⟨⟨o2_ok _⟩, ?_⟩
    refine ⟨⟨by (try clear hv); (try clear q1 q2); (try clear hk); (first | omega | ((try simp only [decide_eq_true_eq, decide_eq_false_iff_not, Bool.not_eq_true, Bool.not_eq_false, Bool.and_eq_true, Bool.or_eq_true, Bool.not_not, cond_and, cond_or, List.length_append, List.length_cons, List.length_nil] at *); (first | omega | (intros; (try simp only [Bool.not_not, cond_and, cond_or, Bool.and_eq_true, decide_eq_true_eq] at *); (exact band_nn rfl _ _)) | (intros; (try simp only [Bool.not_not, cond_and, cond_or, Bool.and_eq_true, decide_eq_true_eq] at *); (exact (wu64s _).2.1)) | (intros; (try simp only [Bool.not_not, cond_and, cond_or, Bool.and_eq_true, decide_eq_true_eq] at *); (simp only [Bool.or_eq_false_iff, Bool.and_eq_false_iff, decide_eq_false_iff_not, decide_eq_true_eq, bne_iff_ne, beq_iff_eq, bne_eq_false_iff_eq, beq_eq_false_iff_ne, ne_eq, true_and] at *; omega)) | (intros; (try simp only [Bool.not_not, cond_and, cond_or, Bool.and_eq_true, decide_eq_true_eq] at *); (simp only [List.length_drop, List.length_take, List.length_append, List.length_cons, List.length_nil] at *; omega)) | (intros; omega) | (intros; simp only [sized_iff, Bool.not_not, cond_and, cond_or, Bool.and_eq_true, decide_eq_true_eq] at *; omega) | (intros; simp_all [sized_iff, Bool.not_not]; done))))⟩, ?_⟩
    refine ⟨⟨on_ok _⟩, ?_⟩
    revert hv; refine by_cond2 (fun hb hv => ?_) (fun hb hv => ?_)
    · subst hv; exact And.intro (by kernel_rfl) (by kernel_rfl)
    · refine oPut.ilp fields i out ((fields.getD i.toNat Field.zero).Size.toNat + 1) ((0 : Int)) (out) (by unfold oPut.irng; (try clear hv); (try clear q1 q2); (try clear hk); (simp only [Bool.or_eq_false_iff, Bool.not_eq_false, cond_or, cond_and, sized_iff, Bool.not_eq_eq_eq_not, Bool.not_false] at *; omega)) _ (by kernel_rfl) (by kernel_rfl) _ _ rfl (fun m0 hx => ?_)
      unfold oPut.irng at hx
      refine (oPut.st2_ok fields i out ((oPut.igo fields i out ((fields.getD i.toNat Field.zero).Size.toNat + 1) ((0 : Int)) (out)).1) ((oPut.igo fields i out ((fields.getD i.toNat Field.zero).Size.toNat + 1) ((0 : Int)) (out)).2) _ _).mpr ?_
      unfold oPut.st2
      exact ⟨(n0, (IntKind.wrap IntKind.i64 (i + (1 : Int))), (((oPut.igo fields i out ((fields.getD i.toNat Field.zero).Size.toNat + 1) ((0 : Int)) (out)).2))), (by kernel_rfl), Nat.lt_succ_self n0, (by dsimp only; unfold oPut.rng; (try clear hv); (try clear q1 q2); (try clear hk); (try simp only [decide_eq_true_eq, decide_eq_false_iff_not, Bool.not_eq_true, Bool.not_eq_false, Bool.and_eq_true, Bool.or_eq_true, Bool.not_not, cond_and, cond_or, List.length_append, List.length_cons, List.length_nil] at *); have := wi64s (i + (1 : Int)); omega), hv⟩
  · subst hv; exact And.intro (by kernel_rfl) (by kernel_rfl)
def oPut (fields : List Field) : (List Int) × Int := oPut.go fields (fields.length + 1) ((0 : Int)) ([])
def oPut.dec (cs : List (AV El)) : Option ((List Field)) := popS 95 cs fun a0 c0 => popE c0 a0
def oPut.enc (x : (List Field)) : List (AV El) := [.sl 95 (x : List (El 95)) false]
theorem oPut.dec_ok : ∀ cs x, oPut.dec cs = some x → Imp (S := S) cs (oPut.enc x) := by
  intro cs x h
  unfold oPut.dec at h
  obtain ⟨a0, c0, h0, k0⟩ := popS_some (S := S) (t := 95) h
  obtain ⟨rfl, rfl⟩ := popE_some (S := S) h0
  exact (k0 _ (.refl _))
def oPut.nf (fields : List Field) (K : AV El → List (AObj El) → Prop) : Prop := (List.length fields ≤ (9223372036854775807 : Nat)) → (evCode (mkCx Tryd.prog S tab_cCheckUpdate 0) (evFun (mkCx Tryd.prog S tab_cCheckUpdate 0) 3) (.loop (loopB Tryd.prog 73 [true, true, false, true, false])) ({ lo := 0, slots := [(10, .v (.int .i64 ((0 : Int)))), (9, .v (.int .i64 ((↑(List.length fields) : Int)))), (8, .sl 95 (fields : List (El 95)) false), (4, .v (.slice none 0 0)), (3, .v (.int .i64 ((0 : Int)))), (2, .v (.slice none 0 0)), (0, .sl 95 (fields : List (El 95)) false)], n := 49, objs := [] }) (loopK (mkCx Tryd.prog S tab_cCheckUpdate 0) 3 73 [true, true, false, true, false] K))
theorem oPut.nf_ok (fields : List Field) (K : AV El → List (AObj El) → Prop) : evFun (mkCx Tryd.prog S tab_cCheckUpdate 0) 4 73 [.sl 95 (fields : List (El 95)) false] [] K = oPut.nf fields K := by kernel_rfl
theorem oPut.key (fields : List Field) (hp : fields.length ≤ 1099511627776) (v : (List Int) × Int) (hv : v = oPut fields) : oPut.nf fields (fun r' H' => Gives r' H' (oPut.res v) (oPut.news v)) := by
  unfold oPut at hv
  unfold oPut.nf
  intro hlen
  exact oPut.lp fields hp v _ _ _ hv (by unfold oPut.rng; (try clear hv); (try clear q1 q2); (try clear hk); (first | omega | (simp only [List.length_nil]; omega) | (simp; omega))) _ (by kernel_rfl) (by kernel_rfl)
def oPut.ct : Ct El := ctOf oPut.dec (fun x => [x.length ≤ 1099511627776]) (fun x => oPut.res (oPut x)) (fun x => oPut.news (oPut x))
theorem oPut.ok : CtOk (mkCx Tryd.prog S [] 0) 73 oPut.ct := ct_mk (C := (mkCx Tryd.prog S tab_cCheckUpdate 0)) (mkCx_ok sigOk mixed tab_cCheckUpdate_ok 0) oPut.dec_ok (fun x => rfl) 4 (fun x hp => (oPut.nf_ok x _).mpr (oPut.key x (hp _ (List.mem_singleton.2 rfl)) _ rfl))
def tab_oPut : List (FuncId × Ct El) := (73, oPut.ct) :: tab_cCheckUpdate
theorem tab_oPut_ok : TabOk Tryd.prog S tab_oPut := ⟨oPut.ok, by kernel_rfl, tab_cCheckUpdate_ok⟩

/-! wireless/wirelessref02.Num -/
def r2Num.res (r : (List Int)) : AV El := .gs 0
def r2Num.news (r : (List Int)) : List (AObj El) := [.row 5 (r : List (El 5))]
def r2Num.go (size : Int) (p1 : Int) : Nat → Int → Int → (List Int) → (List Int)
  | 0, _, _, _ => []
  | n0 + 1, i, q, out => cond (decide (i < size)) (r2Num.go size p1 n0 (IntKind.wrap IntKind.i64 (i + (1 : Int))) (IntKind.wrap IntKind.u64 (Int.tdiv q (256 : Int))) (out ++ [IntKind.wrap IntKind.u8 (Int.tmod q (256 : Int))])) (out)
def r2Num.hd (size : Int) (p1 : Int) (i : Int) (q : Int) (out : List Int) : St El := { lo := 0, slots := [(6, .v (.int .i64 (i))), (5, .gs 0), (0, .v (.int .i64 (size))), (1, .v (.int .u64 (q)))], n := 22, objs := [.row 5 (out : List (El 5))] }
def r2Num.st (size : Int) (p1 : Int) (i : Int) (q : Int) (out : List Int) (J : St El → Prop) (K : AV El → List (AObj El) → Prop) : Prop := cond (decide (i < size)) (Ob ((256 : Int) ≠ (0 : Int)) ∧ (Ob ((List.length out + List.length [IntKind.wrap IntKind.u8 (Int.tmod q (256 : Int))]) * (1 : Nat) ≤ (140737488355328 : Nat)) ∧ (Ob ((256 : Int) ≠ (0 : Int)) ∧ (J (r2Num.hd size p1 (IntKind.wrap IntKind.i64 (i + (1 : Int))) (IntKind.wrap IntKind.u64 (Int.tdiv q (256 : Int))) (out ++ [IntKind.wrap IntKind.u8 (Int.tmod q (256 : Int))])))))) (K (.gs 0) [.row 5 (out : List (El 5))])
theorem r2Num.st_ok (size : Int) (p1 : Int) (i : Int) (q : Int) (out : List Int) (J : St El → Prop) (K : AV El → List (AObj El) → Prop) : evCode (mkCx Tryd.prog S tab_oPut 0) (evFun (mkCx Tryd.prog S tab_oPut 0) 3) (loopB Tryd.prog 81 [true, true, false, true, false]) (r2Num.hd size p1 i q out) (roundK (C := (mkCx Tryd.prog S tab_oPut 0)) [6, 5, 0, 1] [] J (loopK (mkCx Tryd.prog S tab_oPut 0) 3 81 [true, true, false, true, false] K)) = r2Num.st size p1 i q out J K := by kernel_rfl
def r2Num.rng (size : Int) (p1 : Int) (n0 : Nat) (i : Int) (q : Int) (out : List Int) : Prop := 0 ≤ i ∧ i ≤ 8 ∧ (size - i).toNat < n0 ∧ size ≤ 8 ∧ out.length = i.toNat
theorem r2Num.lp (size : Int) (p1 : Int) (hp : size ≤ 8) (v : (List Int)) (n0 : Nat) (i : Int) (q : Int) (out : List Int) (hv : v = r2Num.go size p1 n0 i q out) (h0 : r2Num.rng size p1 n0 i q out) (st : St El) (q1 : okH [6, 5, 0, 1] [] st = true) (q2 : headS [6, 5, 0, 1] [] st = r2Num.hd size p1 i q out) : evCode (mkCx Tryd.prog S tab_oPut 0) (evFun (mkCx Tryd.prog S tab_oPut 0) 3) (.loop (loopB Tryd.prog 81 [true, true, false, true, false])) st (loopK (mkCx Tryd.prog S tab_oPut 0) 3 81 [true, true, false, true, false] (fun r' H' => Gives r' H' (r2Num.res v) (r2Num.news v))) := by
  refine loop_ev rfl (evFun_mono _ _) [6, 5, 0, 1] [] (X := Nat × Int × Int × (List Int)) (fun x => r2Num.hd size p1 x.2.1 x.2.2.1 x.2.2.2) (fun x => x.1) (fun x => r2Num.rng size p1 x.1 x.2.1 x.2.2.1 x.2.2.2 ∧ v = r2Num.go size p1 x.1 x.2.1 x.2.2.1 x.2.2.2) (n0, i, q, out) ⟨q1, q2⟩ ⟨h0, hv⟩ ?_
  clear h0 hv q1 q2
  rintro ⟨n0, i, q, out⟩ ⟨hr, hv⟩
  dsimp only at hr hv
  cases n0 with
  | zero => exact absurd hr (by unfold r2Num.rng; omega)
  | succ n0 =>
  unfold r2Num.rng at hr
  unfold r2Num.go at hv
  refine (r2Num.st_ok size p1 i q out _ _).mpr ?_
  unfold r2Num.st
  revert hv; refine by_cond2 (fun hb hv => ?_) (fun hb hv => ?_)
  · refine ⟨⟨by (try clear hv); (try clear q1 q2); (try clear hk); (first | omega | ((try simp only [decide_eq_true_eq, decide_eq_false_iff_not, Bool.not_eq_true, Bool.not_eq_false, Bool.and_eq_true, Bool.or_eq_true, Bool.not_not, cond_and, cond_or, List.length_append, List.length_cons, List.length_nil] at *); (first | omega | (intros; (try simp only [Bool.not_not, cond_and, cond_or, Bool.and_eq_true, decide_eq_true_eq] at *); (exact band_nn rfl _ _)) | (intros; (try simp only [Bool.not_not, cond_and, cond_or, Bool.and_eq_true, decide_eq_true_eq] at *); (exact (wu64s _).2.1)) | (intros; (try simp only [Bool.not_not, cond_and, cond_or, Bool.and_eq_true, decide_eq_true_eq] at *); (simp only [Bool.or_eq_false_iff, Bool.and_eq_false_iff, decide_eq_false_iff_not, decide_eq_true_eq, bne_iff_ne, beq_iff_eq, bne_eq_false_iff_eq, beq_eq_false_iff_ne, ne_eq, true_and] at *; omega)) | (intros; (try simp only [Bool.not_not, cond_and, cond_or, Bool.and_eq_true, decide_eq_true_eq] at *); (simp only [List.length_drop, List.length_take, List.length_append, List.length_cons, List.length_nil] at *; omega)) | (intros; omega) | (intros; simp only [sized_iff, Bool.not_not, cond_and, cond_or, Bool.and_eq_true, decide_eq_true_eq] at *; omega) | (intros; simp_all [sized_iff, Bool.not_not]; done))))⟩, ?_⟩
    refine ⟨⟨by (try clear hv); (try clear q1 q2); (try clear hk); (first | omega | ((try simp only [decide_eq_true_eq, decide_eq_false_iff_not, Bool.not_eq_true, Bool.not_eq_false, Bool.and_eq_true, Bool.or_eq_true, Bool.not_not, cond_and, cond_or, List.length_append, List.length_cons, List.length_nil] at *); have := wu8s (Int.tmod q (256 : Int)); (first | omega | (intros; (try simp only [Bool.not_not, cond_and, cond_or, Bool.and_eq_true, decide_eq_true_eq] at *); (exact band_nn rfl _ _)) | (intros; (try simp only [Bool.not_not, cond_and, cond_or, Bool.and_eq_true, decide_eq_true_eq] at *); (exact (wu64s _).2.1)) | (intros; (try simp only [Bool.not_not, cond_and, cond_or, Bool.and_eq_true, decide_eq_true_eq] at *); (simp only [Bool.or_eq_false_iff, Bool.and_eq_false_iff, decide_eq_false_iff_not, decide_eq_true_eq, bne_iff_ne, beq_iff_eq, bne_eq_false_iff_eq, beq_eq_false_iff_ne, ne_eq, true_and] at *; omega)) | (intros; (try simp only [Bool.not_not, cond_and, cond_or, Bool.and_eq_true, decide_eq_true_eq] at *); (simp only [List.length_drop, List.length_take, List.length_append, List.length_cons, List.length_nil] at *; omega)) | (intros; omega) | (intros; simp only [sized_iff, Bool.not_not, cond_and, cond_or, Bool.and_eq_true, decide_eq_true_eq] at *; omega) | (intros; simp_all [sized_iff, Bool.not_not]; done))))⟩, ?_⟩
    refine ⟨⟨by (try clear hv); (try clear q1 q2); (try clear hk); (first | omega | ((try simp only [decide_eq_true_eq, decide_eq_false_iff_not, Bool.not_eq_true, Bool.not_eq_false, Bool.and_eq_true, Bool.or_eq_true, Bool.not_not, cond_and, cond_or, List.length_append, List.length_cons, List.length_nil] at *); (first | omega | (intros; (try simp only [Bool.not_not, cond_and, cond_or, Bool.and_eq_true, decide_eq_true_eq] at *); (exact band_nn rfl _ _)) | (intros; (try simp only [Bool.not_not, cond_and, cond_or, Bool.and_eq_true, decide_eq_true_eq] at *); (exact (wu64s _).2.1)) | (intros; (try simp only [Bool.not_not, cond_and, cond_or, Bool.and_eq_true, decide_eq_true_eq] at *); (simp only [Bool.or_eq_false_iff, Bool.and_eq_false_iff, decide_eq_false_iff_not, decide_eq_true_eq, bne_iff_ne, beq_iff_eq, bne_eq_false_iff_eq, beq_eq_false_iff_ne, ne_eq, true_and] at *; omega)) | (intros; (try simp only [Bool.not_not, cond_and, cond_or, Bool.and_eq_true, decide_eq_true_eq] at *); (simp only [List.length_drop, List.length_take, List.length_append, List.length_cons, List.length_nil] at *; omega)) | (intros; omega) | (intros; simp only [sized_iff, Bool.not_not, cond_and, cond_or, Bool.and_eq_true, decide_eq_true_eq] at *; omega) | (intros; simp_all [sized_iff, Bool.not_not]; done))))⟩, ?_⟩
    exact ⟨(n0, (IntKind.wrap IntKind.i64 (i + (1 : Int))), (IntKind.wrap IntKind.u64 (Int.tdiv q (256 : Int))), (out ++ [IntKind.wrap IntKind.u8 (Int.tmod q (256 : Int))])), (by kernel_rfl), Nat.lt_succ_self n0, (by dsimp only; unfold r2Num.rng; (try clear hv); (try clear q1 q2); (try clear hk); (try simp only [decide_eq_true_eq, decide_eq_false_iff_not, Bool.not_eq_true, Bool.not_eq_false, Bool.and_eq_true, Bool.or_eq_true, Bool.not_not, cond_and, cond_or, List.length_append, List.length_cons, List.length_nil] at *); have := wi64s (i + (1 : Int)); have := wu64s (Int.tdiv q (256 : Int)); have := wu8s (Int.tmod q (256 : Int)); omega), hv⟩
  · subst hv; exact And.intro (by kernel_rfl) (by kernel_rfl)
def r2Num (size : Int) (p1 : Int) : (List Int) := r2Num.go size p1 (size.toNat + 1) ((0 : Int)) (p1) ([])
def r2Num.dec (cs : List (AV El)) : Option (Int × Int) := popI .i64 cs fun a0 c0 => popI .u64 c0 fun a1 c1 => popE c1 (a0, a1)
def r2Num.enc (x : Int × Int) : List (AV El) := [.v (.int .i64 x.1), .v (.int .u64 x.2)]
theorem r2Num.dec_ok : ∀ cs x, r2Num.dec cs = some x → Imp (S := S) cs (r2Num.enc x) := by
  intro cs x h
  unfold r2Num.dec at h
  obtain ⟨a0, c0, rfl, h0⟩ := popI_some (S := S) h
  obtain ⟨a1, c1, rfl, h1⟩ := popI_some (S := S) h0
  obtain ⟨rfl, rfl⟩ := popE_some (S := S) h1
  exact (.cons (.cons (.refl _)))
def r2Num.nf (size : Int) (p1 : Int) (K : AV El → List (AObj El) → Prop) : Prop := evCode (mkCx Tryd.prog S tab_oPut 0) (evFun (mkCx Tryd.prog S tab_oPut 0) 3) (.loop (loopB Tryd.prog 81 [true, true, false, true, false])) ({ lo := 0, slots := [(6, .v (.int .i64 ((0 : Int)))), (5, .gs 0), (7, .gs 0), (4, .v (.slice none 0 0)), (0, .v (.int .i64 (size))), (1, .v (.int .u64 (p1)))], n := 22, objs := [.row 5 ([] : List (El 5))] }) (loopK (mkCx Tryd.prog S tab_oPut 0) 3 81 [true, true, false, true, false] K)
theorem r2Num.nf_ok (size : Int) (p1 : Int) (K : AV El → List (AObj El) → Prop) : evFun (mkCx Tryd.prog S tab_oPut 0) 4 81 [.v (.int .i64 size), .v (.int .u64 p1)] [] K = r2Num.nf size p1 K := by kernel_rfl
theorem r2Num.key (size : Int) (p1 : Int) (hp : size ≤ 8) (v : (List Int)) (hv : v = r2Num size p1) : r2Num.nf size p1 (fun r' H' => Gives r' H' (r2Num.res v) (r2Num.news v)) := by
  unfold r2Num at hv
  unfold r2Num.nf
  exact r2Num.lp size p1 hp v _ _ _ _ hv (by unfold r2Num.rng; (try clear hv); (try clear q1 q2); (try clear hk); (first | omega | (simp only [List.length_nil]; omega) | (simp; omega))) _ (by kernel_rfl) (by kernel_rfl)
def r2Num.ct : Ct El := ctOf r2Num.dec (fun x => [x.1 ≤ 8]) (fun x => r2Num.res (r2Num x.1 x.2)) (fun x => r2Num.news (r2Num x.1 x.2))
theorem r2Num.ok : CtOk (mkCx Tryd.prog S [] 0) 81 r2Num.ct := ct_mk (C := (mkCx Tryd.prog S tab_oPut 0)) (mkCx_ok sigOk mixed tab_oPut_ok 0) r2Num.dec_ok (fun x => rfl) 4 (fun x hp => (r2Num.nf_ok x.1 x.2 _).mpr (r2Num.key x.1 x.2 (hp _ (List.mem_singleton.2 rfl)) _ rfl))
def tab_r2Num : List (FuncId × Ct El) := (81, r2Num.ct) :: tab_oPut
theorem tab_r2Num_ok : TabOk Tryd.prog S tab_r2Num := ⟨r2Num.ok, by kernel_rfl, tab_oPut_ok⟩

end Go.Aw.W
