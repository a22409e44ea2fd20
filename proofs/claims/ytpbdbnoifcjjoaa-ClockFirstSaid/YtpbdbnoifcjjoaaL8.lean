/- The time that Real returns is the first one. Proved for every input, out of the reckoning of the law's function and of all that it calls; no conditions. -/
import Derived.Test.YtpbdbnoifcjjoaaC9
namespace Go.Proofs.Ytpbdbnoifcjjoaa.clockFirst
open Go.ChangeShapes Go.WideShapes Go.ChangeAt Go.RowKit Go.Aw Go.Aw.Clock
set_option linter.unusedVariables false

theorem own : ownKnob Try.prog.godebug = none := by kernel_rfl

abbrev R (b : Bool) : Prop := AV.v (El := ElC) (Value.bool b) = .v (.bool true)
section
variable (p s t : Int)
def rl : Int := realF p s t
def x : Bool := decide (realF p s t < 0)
def y : Bool := bif decide (realF p s t < 0) then true else decide (1099511627776 < realF p s t)
def c : Bool := decide (0 < realF p s t)
def d : Bool := bif decide (0 < realF p s t) then decide (t ≤ localF p s (IntKind.i64.wrap (realF p s t - 1))) else false
def m : Bool := realF p s t == 1099511627776
def f : Bool := decide (t ≤ localF p s (realF p s t))
def g : Bool := decide (t ≤ localF p s (realF p s t)) && !realF p s t == 0
def e : Bool := bif decide (t ≤ localF p s (realF p s t)) then bif realF p s t == 0 then true else decide (IntKind.i64.wrap (localF p s (realF p s t) - 1) ≤ t) else false
theorem law : evFun C5 3 8 [ck p s, i t] [] (fun r _ => r = .v (.bool true)) := by
  have : evFun C5 3 8 [ck p s, i t] [] (fun r _ => r = .v (.bool true)) = (((!true) = true → R false) ∧ ((!true) = false → also [o3 (!x p s t), on (x p s t)] ((y p s t = true → R false) ∧ (y p s t = false →
    also [o3 (c p s t), o3 (c p s t), o3 (c p s t), o3 (c p s t), o3 (c p s t), o2 (c p s t)] ((d p s t = true → R false) ∧ (d p s t = false → ((m p s t = true → R true) ∧ (m p s t = false →
      also [o3 (f p s t), o3 (f p s t), o3 (g p s t), o3 (g p s t), o3 (g p s t), o2 (f p s t), f p s t = true → (realF p s t == 0) = false → g p s t = true, o2 (f p s t)] (R (e p s t)))))))))) := by kernel_rfl
  obtain ⟨h0, h1, h2, h3⟩ := real_first p s t
  have hb := local_bound p s (realF p s t)
  refine this.mpr ⟨(fun h => by cases h), fun _ => also_of (by simp [o3, on]) ⟨fun h => ?_, fun h => also_of (by simp [o3, o2]) ⟨fun h => ?_, fun h => ⟨fun _ => rfl, fun h => also_of ?_ ?_⟩⟩⟩⟩
  · unfold y at h
    rw [decide_eq_false (show ¬ realF p s t < 0 by omega), decide_eq_false (show ¬ 1099511627776 < realF p s t by omega)] at h
    cases h
  · unfold d at h
    by_cases h4 : 0 < realF p s t
    · have := h2 h4
      rw [decide_eq_true h4, wi64 _ (by omega) (by omega), decide_eq_false (show ¬ t ≤ localF p s (realF p s t - 1) by omega)] at h
      cases h
    · rw [decide_eq_false h4] at h
      cases h
  · intro q hq
    simp only [List.mem_cons, List.not_mem_nil, or_false] at hq
    rcases hq with rfl | rfl | rfl | rfl | rfl | rfl | rfl | rfl <;> first | exact fun _ h => h | exact fun h => h | (intro h5 h6; unfold g; unfold f at h5; rw [h5, h6]; rfl)
  · have h4 : realF p s t ≠ 1099511627776 := by simpa [m] using h
    have h5 : t ≤ localF p s (realF p s t) := h3 (by omega)
    have : e p s t = true := by
      unfold e
      rw [decide_eq_true h5]
      by_cases h6 : realF p s t = 0
      · rw [show (realF p s t == 0) = true by simpa using h6]; rfl
      · rw [show (realF p s t == 0) = false by simpa using h6]
        have h7 := h2 (by omega)
        have h8 := local_step p s (t := realF p s t - 1) (by omega) (by omega)
        rw [show realF p s t - 1 + 1 = realF p s t by omega] at h8
        rw [wi64 _ (by omega) (by omega)]
        exact decide_eq_true (by omega)
    rw [this]
end

theorem walk (a0 b0 a1 : Int) (w : World) :
    Calls Try.prog 8 #[.agg #[.int .i64 a0, .int .i64 b0], .int .i64 a1] w fun e w' => e = .returned (.bool true) ∧ Below w.heap.size w w' :=
  law_of_fun ok5 3 (args := [ck a0 b0, i a1]) (law a0 b0 a1) (vals := [.agg #[.int .i64 a0, .int .i64 b0], .int .i64 a1]) (.cons (agg2 _ _) (.cons (Γ.v _) .nil)) (fun g => glob_any)

set_option maxRecDepth 100000 in
theorem lifted (os : Os) (started : os.Started) (H : Type) (enc : TypeId × Value → H) :
    ReturnsInHanded {} Try.checked os 8 .any (Rows.clockFirstSpec.pre6 enc Try.prog Try.f8 Rows.clockFirstRow.domain false) (Rows.clockFirstSpec.post enc Try.prog Try.f8 false true false false) := by
  refine returnsInHanded_of_change (C := Try.checked) own started (by kernel_rfl) Try.func8
    (ChangeSpec.witness6 (enc := enc) (C := Try.checked) false ⟨#[], #[.agg #[.int .i64 0, .int .i64 0], .int .i64 0], []⟩ 8 (by kernel_rfl) (by kernel_rfl) (by kernel_rfl) (by kernel_rfl)) ?_
  intro W base args ds gs before hval0 hW hcnd _
  have hval : ∀ (j : Nat) t v, Try.f8.params[j]? = some t → args[j]? = some v → Value.okWide Try.prog W .any base t v := hval0
  have hW' := hW
  obtain ⟨p, q, hA0, hV, rfl, hfz, hnd⟩ := hW
  obtain ⟨rfl, rfl⟩ := trodVars_none hV
  rw [List.append_nil] at hW'
  have hA : DataW.TrodAll enc Try.prog W 0 (fun _ => true) true Try.f8.params.toList args.toList ds p := hA0
  have hend : ∀ W', Below W.heap.size W W' → Rows.clockFirstSpec.fn H (ds ++ []) = { results := [.lit (.bool true)], args := ds } → Rows.clockFirstSpec.post enc Try.prog Try.f8 false true false false W args (.bool true) W' := fun W' hb hfn =>
    post_true (tb := 4) (by kernel_rfl) hW' rfl hA (by decide +kernel) rfl Try.underlying4 hfn hb
  rw [Try.params8] at hA hval
  obtain ⟨v0, vs0, d0, ds0, p0, q0, hargs, rfl, rfl, h0, r0⟩ := trodAll_cons hA
  obtain ⟨v1, vs1, d1, ds1, p1, q1, rfl, rfl, rfl, h1, r1⟩ := trodAll_cons r0
  obtain ⟨rfl, rfl, rfl⟩ := trodAll_nil r1
  obtain rfl : args = #[v0, v1] := by cases args; simp_all
  obtain ⟨a0, b0, rfl, ha0, hb0⟩ := open_int2 (u0 := 3) (u1 := 3) (by kernel_rfl) (by kernel_rfl) (by kernel_rfl) Try.underlying3 Try.underlying3 (hval 0 23 v0 rfl rfl)
  obtain ⟨a1, rfl⟩ := okWide_int Try.underlying3 (hval 1 3 v1 rfl rfl)
  refine (walk a0 b0 a1 W).mono fun e W' ⟨he, hb⟩ => ?_
  subst he
  exact ⟨_, rfl, hend W' hb rfl⟩

theorem over : Rows.clockFirstRow.holds Try.pinned (OpenSpec.ofChange Rows.clockFirstSpec) :=
  OpenClaim.holds_of_wide 8 Try.f8 rfl rfl rfl rfl rfl rfl rfl ⟨rfl, rfl, rfl, rfl, rfl⟩ rfl rfl rfl rfl rfl (by kernel_rfl) Try.func8 (by kernel_rfl)
    (of_decide_eq_true (by kernel_rfl)) (by unfold Func.isWrapper; first | (rw [if_pos (by decide +kernel)]; kernel_rfl) | (rw [if_neg (by decide +kernel)]; exact ⟨rfl, rfl⟩))
    (fun os started H enc _ => lifted os started H enc)

/-- The statement. -/
theorem proved : Rows.ClockFirstSaid :=
  over
#print axioms proved
end Go.Proofs.Ytpbdbnoifcjjoaa.clockFirst
