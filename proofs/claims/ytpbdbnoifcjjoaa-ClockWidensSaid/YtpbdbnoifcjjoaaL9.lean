/- Between two times, two valid clocks advance by amounts that differ by at most the widening for both deviations. Proved for every input, out of the reckoning of the law's function and of all that it calls; no conditions. -/
import Derived.Test.YtpbdbnoifcjjoaaCA
namespace Go.Proofs.Ytpbdbnoifcjjoaa.clockWidens
open Go.ChangeShapes Go.WideShapes Go.ChangeAt Go.RowKit Go.Aw Go.Aw.Clock
set_option linter.unusedVariables false

theorem own : ownKnob Try.prog.godebug = none := by kernel_rfl

abbrev R (b : Bool) : Prop := AV.v (El := ElC) (Value.bool b) = .v (.bool true)
section
variable (p s q r t u : Int)
def c1 : Bool := checkF p s != 0
def c2 : Bool := bif c1 p s then true else checkF q r != 0
def c3 : Bool := bif c2 p s q r then true else decide (t < 0)
def c4 : Bool := bif c3 p s q r t then true else decide (u < t)
def c5 : Bool := bif c4 p s q r t u then true else decide (1099511627776 < u)
def D : Int := IntKind.i64.wrap (IntKind.i64.wrap (localF p s u - localF p s t) - IntKind.i64.wrap (localF q r u - localF q r t))
def W : Int := widF (IntKind.i64.wrap (maxI p (IntKind.i64.wrap (0 - p)) + maxI q (IntKind.i64.wrap (0 - q)))) (IntKind.i64.wrap (u - t))
def g : Bool := decide (D p s q r t u ≤ W p q t u)
def e : Bool := bif g p s q r t u then decide (IntKind.i64.wrap (0 - W p q t u) ≤ D p s q r t u) else false
theorem law : evFun C5 3 9 [ck p s, ck q r, .agg [i t, i u]] [] (fun r _ => r = .v (.bool true)) := by
  have : evFun C5 3 9 [ck p s, ck q r, .agg [i t, i u]] [] (fun r _ => r = .v (.bool true)) = (((!true) = true → R false) ∧ ((!true) = false → also [((0 : Int) ≤ 0 ∧ (0 : Int) < ((2 : Nat) : Int)), ((0 : Int) ≤ 1 ∧ (1 : Int) < ((2 : Nat) : Int)), o3 (!c1 p s), o3 (!c1 p s), on (c1 p s), o3 (!c2 p s q r), on (c2 p s q r), o3 (!c3 p s q r t), o3 (!c3 p s q r t), on (c3 p s q r t), o3 (!c4 p s q r t u), on (c4 p s q r t u)]
     ((c5 p s q r t u = true → R true) ∧ (c5 p s q r t u = false → also [o3 (g p s q r t u), o3 (g p s q r t u), o3 (g p s q r t u), o2 (g p s q r t u)] (R (e p s q r t u)))))) := by kernel_rfl
  refine this.mpr ⟨(fun h => by cases h), fun _ => also_of (by simp [o3, on]) ⟨fun _ => rfl, fun h => also_of (by simp [o3, o2]) ?_⟩⟩
  by_cases h1 : checkF p s ≠ 0
  · simp [c5, c4, c3, c2, c1, h1] at h
  have h1 := Decidable.not_not.1 h1
  by_cases h2 : checkF q r ≠ 0
  · simp [c5, c4, c3, c2, c1, h1, h2] at h
  have h2 := Decidable.not_not.1 h2
  by_cases h3 : t < 0
  · simp [c5, c4, c3, c2, c1, h1, h2, h3] at h
  by_cases h4 : u < t
  · simp [c5, c4, c3, c2, c1, h1, h2, h3, h4] at h
  by_cases h5 : 1099511627776 < u
  · simp [c5, c4, c3, c2, c1, h1, h2, h3, h4, h5] at h
  obtain ⟨k1, k2⟩ := widens (p := p) (q := q) (s := s) (r := r) (t := t) (u := u) h1 h2 (by omega) (by omega) (by omega)
  obtain ⟨v1, v2, v3, v4⟩ := check_ok h1
  obtain ⟨y1, y2, y3, y4⟩ := check_ok h2
  have b1 := local_bound p s t; have b2 := local_bound p s u; have b3 := local_bound q r t; have b4 := local_bound q r u
  have hD : D p s q r t u = localF p s u - localF p s t - (localF q r u - localF q r t) := by
    unfold D
    rw [wi64 (localF p s u - localF p s t) (by omega) (by omega), wi64 (localF q r u - localF q r t) (by omega) (by omega), wi64 _ (by omega) (by omega)]
  have hW : W p q t u = widF (max p (-p) + max q (-q)) (u - t) := by
    unfold W
    rw [wi64 (0 - p) (by omega) (by omega), wi64 (0 - q) (by omega) (by omega), maxI_eq, maxI_eq, wi64 (max p (0 - p) + max q (0 - q)) (by omega) (by omega), wi64 (u - t) (by omega) (by omega), Int.zero_sub, Int.zero_sub]
  have hw := wid_bound (max p (-p) + max q (-q)) (u - t)
  have e1 : g p s q r t u = true := by unfold g; rw [hD, hW]; exact decide_eq_true k1
  have e2 : e p s q r t u = true := by unfold e; rw [e1, hD, hW, wi64 _ (by omega) (by omega)]; exact decide_eq_true (by omega)
  rw [e2]
end

theorem walk (a0 b0 a1 b1 a2 b2 : Int) (w : World) :
    Calls Try.prog 9 #[.agg #[.int .i64 a0, .int .i64 b0], .agg #[.int .i64 a1, .int .i64 b1], .agg #[.int .i64 a2, .int .i64 b2]] w fun e w' => e = .returned (.bool true) ∧ Below w.heap.size w w' :=
  law_of_fun ok5 3 (args := [ck a0 b0, ck a1 b1, ck a2 b2]) (law a0 b0 a1 b1 a2 b2) (vals := [.agg #[.int .i64 a0, .int .i64 b0], .agg #[.int .i64 a1, .int .i64 b1], .agg #[.int .i64 a2, .int .i64 b2]]) (.cons (agg2 _ _) (.cons (agg2 _ _) (.cons (agg2 _ _) .nil))) (fun g => glob_any)

set_option maxRecDepth 100000 in
theorem lifted (os : Os) (started : os.Started) (H : Type) (enc : TypeId × Value → H) :
    ReturnsInHanded {} Try.checked os 9 .any (Rows.clockWidensSpec.pre6 enc Try.prog Try.f9 Rows.clockWidensRow.domain false) (Rows.clockWidensSpec.post enc Try.prog Try.f9 false true false false) := by
  refine returnsInHanded_of_change (C := Try.checked) own started (by kernel_rfl) Try.func9
    (ChangeSpec.witness6 (enc := enc) (C := Try.checked) false ⟨#[], #[.agg #[.int .i64 0, .int .i64 0], .agg #[.int .i64 0, .int .i64 0], .agg #[.int .i64 0, .int .i64 0]], []⟩ 8 (by kernel_rfl) (by kernel_rfl) (by kernel_rfl) (by kernel_rfl)) ?_
  intro W base args ds gs before hval0 hW hcnd _
  have hval : ∀ (j : Nat) t v, Try.f9.params[j]? = some t → args[j]? = some v → Value.okWide Try.prog W .any base t v := hval0
  have hW' := hW
  obtain ⟨p, q, hA0, hV, rfl, hfz, hnd⟩ := hW
  obtain ⟨rfl, rfl⟩ := trodVars_none hV
  rw [List.append_nil] at hW'
  have hA : DataW.TrodAll enc Try.prog W 0 (fun _ => true) true Try.f9.params.toList args.toList ds p := hA0
  have hend : ∀ W', Below W.heap.size W W' → Rows.clockWidensSpec.fn H (ds ++ []) = { results := [.lit (.bool true)], args := ds } → Rows.clockWidensSpec.post enc Try.prog Try.f9 false true false false W args (.bool true) W' := fun W' hb hfn =>
    post_true (tb := 4) (by kernel_rfl) hW' rfl hA (by decide +kernel) rfl Try.underlying4 hfn hb
  rw [Try.params9] at hA hval
  obtain ⟨v0, vs0, d0, ds0, p0, q0, hargs, rfl, rfl, h0, r0⟩ := trodAll_cons hA
  obtain ⟨v1, vs1, d1, ds1, p1, q1, rfl, rfl, rfl, h1, r1⟩ := trodAll_cons r0
  obtain ⟨v2, vs2, d2, ds2, p2, q2, rfl, rfl, rfl, h2, r2⟩ := trodAll_cons r1
  obtain ⟨rfl, rfl, rfl⟩ := trodAll_nil r2
  obtain rfl : args = #[v0, v1, v2] := by cases args; simp_all
  obtain ⟨a0, b0, rfl, ha0, hb0⟩ := open_int2 (u0 := 3) (u1 := 3) (by kernel_rfl) (by kernel_rfl) (by kernel_rfl) Try.underlying3 Try.underlying3 (hval 0 23 v0 rfl rfl)
  obtain ⟨a1, b1, rfl, ha1, hb1⟩ := open_int2 (u0 := 3) (u1 := 3) (by kernel_rfl) (by kernel_rfl) (by kernel_rfl) Try.underlying3 Try.underlying3 (hval 1 23 v1 rfl rfl)
  obtain ⟨a2, b2, rfl, ha2, hb2⟩ := open_int2 (u0 := 3) (u1 := 3) (by kernel_rfl) (by kernel_rfl) (by kernel_rfl) Try.underlying3 Try.underlying3 (hval 2 33 v2 rfl rfl)
  refine (walk a0 b0 a1 b1 a2 b2 W).mono fun e W' ⟨he, hb⟩ => ?_
  subst he
  exact ⟨_, rfl, hend W' hb rfl⟩

theorem over : Rows.clockWidensRow.holds Try.pinned (OpenSpec.ofChange Rows.clockWidensSpec) :=
  OpenClaim.holds_of_wide 9 Try.f9 rfl rfl rfl rfl rfl rfl rfl ⟨rfl, rfl, rfl, rfl, rfl⟩ rfl rfl rfl rfl rfl (by kernel_rfl) Try.func9 (by kernel_rfl)
    (of_decide_eq_true (by kernel_rfl)) (by unfold Func.isWrapper; first | (rw [if_pos (by decide +kernel)]; kernel_rfl) | (rw [if_neg (by decide +kernel)]; exact ⟨rfl, rfl⟩))
    (fun os started H enc _ => lifted os started H enc)

/-- The statement. -/
theorem proved : Rows.ClockWidensSaid :=
  over
#print axioms proved
end Go.Proofs.Ytpbdbnoifcjjoaa.clockWidens
