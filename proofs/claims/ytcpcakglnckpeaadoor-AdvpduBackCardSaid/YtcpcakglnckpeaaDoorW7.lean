/- Contracts of the seat (printed by ct.py). -/
import Derived.Test.YtcpcakglnckpeaaDoorW6
set_option linter.unusedVariables false
set_option linter.unusedSimpArgs false
set_option maxRecDepth 20000
set_option maxHeartbeats 1000000
namespace Go.Aw.W
open Go Go.Aw Go.Proofs
attribute [local irreducible] evCode evFun evOps evDs evOne ctxK loopK loopB subC bodyC headS okH roundK

theorem r2Num_go_len (size p1 : Int) (hs : size ≤ 8) : ∀ (n : Nat) (i q : Int) (out : List Int), 0 ≤ i → (r2Num.go size p1 n i q out).length ≤ out.length + (size - i).toNat
  | 0, i, q, out, h => by simp [r2Num.go]
  | n + 1, i, q, out, h => by
    unfold r2Num.go
    by_cases hi : i < size
    · simp only [hi, decide_true, cond_true]
      have := r2Num_go_len size p1 hs n (IntKind.wrap IntKind.i64 (i + (1 : Int))) (IntKind.wrap IntKind.u64 (Int.tdiv q (256 : Int))) (out ++ [IntKind.wrap IntKind.u8 (Int.tmod q (256 : Int))]) (by rw [wi64 _ (by omega) (by omega)]; omega)
      rw [wi64 (i + (1 : Int)) (by omega) (by omega), List.length_append, List.length_singleton] at this
      rw [wi64 (i + (1 : Int)) (by omega) (by omega)]
      omega
    · simp only [hi, decide_false, cond_false]; omega
theorem r2Num_len {size : Int} (v : Int) (hs : size ≤ 8) : (r2Num size v).length ≤ 8 := by
  have := r2Num_go_len size v hs (size.toNat + 1) 0 v [] (by omega)
  unfold r2Num
  simp only [List.length_nil] at this
  omega

/-! wireless/wirelessref02.Put -/
def r2Put.res (r : (List Int) × Int) : AV El := .tup [.gs 0, .v (.int .i64 (r.2))]
def r2Put.news (r : (List Int) × Int) : List (AObj El) := [.row 5 (r.1 : List (El 5))]
def r2Put.go (fields : List Field) : Nat → Int → (List Int) → (List Int) × Int
  | 0, _, _ => ([], 0)
  | n0 + 1, i, out => cond (decide (i < (↑(List.length fields) : Int))) (cond (bif
    bif decide ((List.getD fields (Int.toNat i) Field.zero).Size < (1 : Int)) then true
    else decide ((8 : Int) < (List.getD fields (Int.toNat i) Field.zero).Size) then
  true
else
  r1Low (List.getD fields (Int.toNat i) Field.zero).Value
      (IntKind.wrap IntKind.i64 ((8 : Int) * (List.getD fields (Int.toNat i) Field.zero).Size)) !=
    (List.getD fields (Int.toNat i) Field.zero).Value) (([], (5 : Int))) (r2Put.go fields n0 (IntKind.wrap IntKind.i64 (i + (1 : Int))) (out ++ r2Num (List.getD fields (Int.toNat i) Field.zero).Size (List.getD fields (Int.toNat i) Field.zero).Value))) ((out, (0 : Int)))
def r2Put.hd (fields : List Field) (i : Int) (out : List Int) : St El := { lo := 0, slots := [(5, .v (.int .i64 (i))), (4, .gs 0), (0, .sl 95 (fields : List (El 95)) false)], n := 45, objs := [.row 5 (out : List (El 5))] }
def r2Put.st (fields : List Field) (i : Int) (out : List Int) (J : St El → Prop) (K : AV El → List (AObj El) → Prop) : Prop := (List.length fields ≤ (9223372036854775807 : Nat)) → (cond (decide (i < (↑(List.length fields) : Int))) (Ob ((0 : Int) ≤ i ∧ i < (↑(List.length fields) : Int)) ∧ (Ob (o3 (!decide ((List.getD fields (Int.toNat i) Field.zero).Size < (1 : Int)))) ∧ (Ob (o3 (!decide ((List.getD fields (Int.toNat i) Field.zero).Size < (1 : Int)))) ∧ (Ob (on (decide ((List.getD fields (Int.toNat i) Field.zero).Size < (1 : Int)))) ∧ (Ob (o3 (!bif decide ((List.getD fields (Int.toNat i) Field.zero).Size < (1 : Int)) then true
  else decide ((8 : Int) < (List.getD fields (Int.toNat i) Field.zero).Size))) ∧ (Ob (o3 (!bif decide ((List.getD fields (Int.toNat i) Field.zero).Size < (1 : Int)) then true
  else decide ((8 : Int) < (List.getD fields (Int.toNat i) Field.zero).Size))) ∧ (Ob (o3 (!bif decide ((List.getD fields (Int.toNat i) Field.zero).Size < (1 : Int)) then true
  else decide ((8 : Int) < (List.getD fields (Int.toNat i) Field.zero).Size))) ∧ (Ob (o3 (!bif decide ((List.getD fields (Int.toNat i) Field.zero).Size < (1 : Int)) then true
  else decide ((8 : Int) < (List.getD fields (Int.toNat i) Field.zero).Size))) ∧ (Ob (o3 (!bif decide ((List.getD fields (Int.toNat i) Field.zero).Size < (1 : Int)) then true
  else decide ((8 : Int) < (List.getD fields (Int.toNat i) Field.zero).Size))) ∧ (Ob (o3 (!bif decide ((List.getD fields (Int.toNat i) Field.zero).Size < (1 : Int)) then true
  else decide ((8 : Int) < (List.getD fields (Int.toNat i) Field.zero).Size))) ∧ (Ob (o3 (!bif decide ((List.getD fields (Int.toNat i) Field.zero).Size < (1 : Int)) then true
  else decide ((8 : Int) < (List.getD fields (Int.toNat i) Field.zero).Size))) ∧ (Ob (o3 (!bif decide ((List.getD fields (Int.toNat i) Field.zero).Size < (1 : Int)) then true
  else decide ((8 : Int) < (List.getD fields (Int.toNat i) Field.zero).Size))) ∧ (Ob (on (bif decide ((List.getD fields (Int.toNat i) Field.zero).Size < (1 : Int)) then true
else decide ((8 : Int) < (List.getD fields (Int.toNat i) Field.zero).Size))) ∧ (cond (bif
    bif decide ((List.getD fields (Int.toNat i) Field.zero).Size < (1 : Int)) then true
    else decide ((8 : Int) < (List.getD fields (Int.toNat i) Field.zero).Size) then
  true
else
  r1Low (List.getD fields (Int.toNat i) Field.zero).Value
      (IntKind.wrap IntKind.i64 ((8 : Int) * (List.getD fields (Int.toNat i) Field.zero).Size)) !=
    (List.getD fields (Int.toNat i) Field.zero).Value) (K (.tup [.v (.slice none 0 0), .v (.int .i64 ((5 : Int)))]) [.row 5 (out : List (El 5)), .cells [.v (.int .i64 ((List.getD fields (Int.toNat i) Field.zero).Size)), .v (.int .u64 ((List.getD fields (Int.toNat i) Field.zero).Value))]]) (Ob ((List.getD fields (Int.toNat i) Field.zero).Size ≤ (8 : Int)) ∧ (Ob ((List.length out +
      List.length
        (r2Num (List.getD fields (Int.toNat i) Field.zero).Size (List.getD fields (Int.toNat i) Field.zero).Value)) *
    (1 : Nat) ≤
  (140737488355328 : Nat)) ∧ (J (r2Put.hd fields (IntKind.wrap IntKind.i64 (i + (1 : Int))) (out ++ r2Num (List.getD fields (Int.toNat i) Field.zero).Size (List.getD fields (Int.toNat i) Field.zero).Value))))))))))))))))))) (K (.tup [.gs 0, .v (.int .i64 ((0 : Int)))]) [.row 5 (out : List (El 5))]))
theorem r2Put.st_ok (fields : List Field) (i : Int) (out : List Int) (J : St El → Prop) (K : AV El → List (AObj El) → Prop) : evCode (mkCx Tryd.prog S tab_oTake 0) (evFun (mkCx Tryd.prog S tab_oTake 0) 3) (loopB Tryd.prog 82 [true, true, false, true, false]) (r2Put.hd fields i out) (roundK (C := (mkCx Tryd.prog S tab_oTake 0)) [5, 4, 0] [] J (loopK (mkCx Tryd.prog S tab_oTake 0) 3 82 [true, true, false, true, false] K)) = r2Put.st fields i out J K := by kernel_rfl
def r2Put.rng (fields : List Field) (n0 : Nat) (i : Int) (out : List Int) : Prop := 0 ≤ i ∧ i ≤ fields.length ∧ (fields.length - i).toNat < n0 ∧ fields.length ≤ 1099511627776 ∧ out.length ≤ 8 * i
theorem r2Put.lp (fields : List Field) (hp : fields.length ≤ 1099511627776) (v : (List Int) × Int) (n0 : Nat) (i : Int) (out : List Int) (hv : v = r2Put.go fields n0 i out) (h0 : r2Put.rng fields n0 i out) (st : St El) (q1 : okH [5, 4, 0] [] st = true) (q2 : headS [5, 4, 0] [] st = r2Put.hd fields i out) : evCode (mkCx Tryd.prog S tab_oTake 0) (evFun (mkCx Tryd.prog S tab_oTake 0) 3) (.loop (loopB Tryd.prog 82 [true, true, false, true, false])) st (loopK (mkCx Tryd.prog S tab_oTake 0) 3 82 [true, true, false, true, false] (fun r' H' => Gives r' H' (r2Put.res v) (r2Put.news v))) := by
  refine loop_ev rfl (evFun_mono _ _) [5, 4, 0] [] (X := Nat × Int × (List Int)) (fun x => r2Put.hd fields x.2.1 x.2.2) (fun x => x.1) (fun x => r2Put.rng fields x.1 x.2.1 x.2.2 ∧ v = r2Put.go fields x.1 x.2.1 x.2.2) (n0, i, out) ⟨q1, q2⟩ ⟨h0, hv⟩ ?_
  clear h0 hv q1 q2
  rintro ⟨n0, i, out⟩ ⟨hr, hv⟩
  dsimp only at hr hv
  cases n0 with
  | zero => exact absurd hr (by unfold r2Put.rng; omega)
  | succ n0 =>
  unfold r2Put.rng at hr
  unfold r2Put.go at hv
  refine (r2Put.st_ok fields i out _ _).mpr ?_
  unfold r2Put.st
  intro hlen
  revert hv; refine by_cond2 (fun hb hv => ?_) (fun hb hv => ?_)
  · refine ⟨⟨by (try clear hv); (try clear q1 q2); (try clear hk); (intros; simp only [decide_eq_true_eq, decide_eq_false_iff_not, cond_or, cond_and, Bool.or_eq_true, Bool.or_eq_false_iff, Bool.not_eq_true, Bool.not_eq_false] at *; first | omega | (have h1 := r2Num_len (fields.getD i.toNat Field.zero).Value (show (fields.getD i.toNat Field.zero).Size ≤ 8 by omega); omega) | (have h1 := wi64s ((8 : Int) * (fields.getD i.toNat Field.zero).Size); omega) | (simp_all; done))⟩, ?_⟩
    refine ⟨⟨o3_ok _⟩, ?_⟩
    refine ⟨⟨o3_ok _⟩, ?_⟩
    refine ⟨⟨on_ok _⟩, ?_⟩
    refine ⟨⟨o3_ok _⟩, ?_⟩
    refine ⟨⟨o3_ok _⟩, ?_⟩
    refine ⟨⟨o3_ok _⟩, ?_⟩
    refine ⟨⟨o3_ok _⟩, ?_⟩
    refine ⟨⟨o3_ok _⟩, ?_⟩
    refine ⟨⟨o3_ok _⟩, ?_⟩
    refine ⟨⟨o3_ok _⟩, ?_⟩
    refine ⟨⟨o3_ok _⟩, ?_⟩
    refine ⟨⟨on_ok _⟩, ?_⟩
    revert hv; refine by_cond2 (fun hb hv => ?_) (fun hb hv => ?_)
    · subst hv; exact And.intro (by kernel_rfl) (by kernel_rfl)
    · refine ⟨⟨by (try clear hv); (try clear q1 q2); (try clear hk); (intros; simp only [decide_eq_true_eq, decide_eq_false_iff_not, cond_or, cond_and, Bool.or_eq_true, Bool.or_eq_false_iff, Bool.not_eq_true, Bool.not_eq_false] at *; first | omega | (have h1 := r2Num_len (fields.getD i.toNat Field.zero).Value (show (fields.getD i.toNat Field.zero).Size ≤ 8 by omega); omega) | (have h1 := wi64s ((8 : Int) * (fields.getD i.toNat Field.zero).Size); omega) | (simp_all; done))⟩, ?_⟩
      refine ⟨⟨by (try clear hv); (try clear q1 q2); (try clear hk); (intros; simp only [decide_eq_true_eq, decide_eq_false_iff_not, cond_or, cond_and, Bool.or_eq_true, Bool.or_eq_false_iff, Bool.not_eq_true, Bool.not_eq_false] at *; first | omega | (have h1 := r2Num_len (fields.getD i.toNat Field.zero).Value (show (fields.getD i.toNat Field.zero).Size ≤ 8 by omega); omega) | (have h1 := wi64s ((8 : Int) * (fields.getD i.toNat Field.zero).Size); omega) | (simp_all; done))⟩, ?_⟩
      exact ⟨(n0, (IntKind.wrap IntKind.i64 (i + (1 : Int))), (out ++ r2Num (List.getD fields (Int.toNat i) Field.zero).Size (List.getD fields (Int.toNat i) Field.zero).Value)), (by kernel_rfl), Nat.lt_succ_self n0, (by dsimp only; unfold r2Put.rng; (try clear hv); (try clear q1 q2); (try clear hk); (simp only [decide_eq_true_eq, decide_eq_false_iff_not, cond_or, cond_and, Bool.or_eq_true, Bool.or_eq_false_iff, List.length_append] at *; have h1 := r2Num_len (fields.getD i.toNat Field.zero).Value (show (fields.getD i.toNat Field.zero).Size ≤ 8 by omega); have h4 := wi64 (i + (1 : Int)) (by omega) (by omega); rw [h4]; omega)), hv⟩
  · subst hv; exact And.intro (by kernel_rfl) (by kernel_rfl)
def r2Put (fields : List Field) : (List Int) × Int := r2Put.go fields (fields.length + 1) ((0 : Int)) ([])
def r2Put.dec (cs : List (AV El)) : Option ((List Field)) := popS 95 cs fun a0 c0 => popE c0 a0
def r2Put.enc (x : (List Field)) : List (AV El) := [.sl 95 (x : List (El 95)) false]
theorem r2Put.dec_ok : ∀ cs x, r2Put.dec cs = some x → Imp (S := S) cs (r2Put.enc x) := by
  intro cs x h
  unfold r2Put.dec at h
  obtain ⟨a0, c0, h0, k0⟩ := popS_some (S := S) (t := 95) h
  obtain ⟨rfl, rfl⟩ := popE_some (S := S) h0
  exact (k0 _ (.refl _))
def r2Put.nf (fields : List Field) (K : AV El → List (AObj El) → Prop) : Prop := evCode (mkCx Tryd.prog S tab_oTake 0) (evFun (mkCx Tryd.prog S tab_oTake 0) 3) (.loop (loopB Tryd.prog 82 [true, true, false, true, false])) ({ lo := 0, slots := [(5, .v (.int .i64 ((0 : Int)))), (4, .gs 0), (7, .gs 0), (3, .v (.int .i64 ((0 : Int)))), (2, .v (.slice none 0 0)), (0, .sl 95 (fields : List (El 95)) false)], n := 45, objs := [.row 5 ([] : List (El 5))] }) (loopK (mkCx Tryd.prog S tab_oTake 0) 3 82 [true, true, false, true, false] K)
theorem r2Put.nf_ok (fields : List Field) (K : AV El → List (AObj El) → Prop) : evFun (mkCx Tryd.prog S tab_oTake 0) 4 82 [.sl 95 (fields : List (El 95)) false] [] K = r2Put.nf fields K := by kernel_rfl
theorem r2Put.key (fields : List Field) (hp : fields.length ≤ 1099511627776) (v : (List Int) × Int) (hv : v = r2Put fields) : r2Put.nf fields (fun r' H' => Gives r' H' (r2Put.res v) (r2Put.news v)) := by
  unfold r2Put at hv
  unfold r2Put.nf
  exact r2Put.lp fields hp v _ _ _ hv (by unfold r2Put.rng; (try clear hv); (try clear q1 q2); (try clear hk); (first | omega | (simp only [List.length_nil]; omega) | (simp; omega))) _ (by kernel_rfl) (by kernel_rfl)
def r2Put.ct : Ct El := ctOf r2Put.dec (fun x => [x.length ≤ 1099511627776]) (fun x => r2Put.res (r2Put x)) (fun x => r2Put.news (r2Put x))
theorem r2Put.ok : CtOk (mkCx Tryd.prog S [] 0) 82 r2Put.ct := ct_mk (C := (mkCx Tryd.prog S tab_oTake 0)) (mkCx_ok sigOk mixed tab_oTake_ok 0) r2Put.dec_ok (fun x => rfl) 4 (fun x hp => (r2Put.nf_ok x _).mpr (r2Put.key x (hp _ (List.mem_singleton.2 rfl)) _ rfl))
def tab_r2Put : List (FuncId × Ct El) := (82, r2Put.ct) :: tab_oTake
theorem tab_r2Put_ok : TabOk Tryd.prog S tab_r2Put := ⟨r2Put.ok, by kernel_rfl, tab_oTake_ok⟩

end Go.Aw.W
