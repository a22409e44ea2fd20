/- The law of events of chapter 21. -/
import Derived.Test.YtppceadhdckpmaaDoorP4
import Derived.Test.YtppceadhdckpmaaDoorW28
set_option linter.unusedVariables false
set_option maxRecDepth 8000
namespace Go.Aw.W
open Go Go.Aw Go.Proofs
theorem start_form (p : AdvParams) (t : Int) : advStart p t = cond (advCheck p != 0) (Advertiser.zero, advCheck p) (⟨p, true, 0, advMoment t⟩, 0) := by
  unfold advStart; simp only [advOwn_eq]
theorem delay_range (seed event : Int) (hs : U64 seed) : 0 ≤ advDelay seed event ∧ advDelay seed event ≤ 9999 := by
  rw [delay_eq seed event hs]
  unfold r21Delay
  have h := derive_range seed { data := #[(100 : UInt8), (101 : UInt8), (108 : UInt8), (97 : UInt8), (121 : UInt8)] : ByteArray } [IntKind.wrap IntKind.u64 event]
  generalize r6Derive seed { data := #[(100 : UInt8), (101 : UInt8), (108 : UInt8), (97 : UInt8), (121 : UInt8)] : ByteArray } [IntKind.wrap IntKind.u64 event] = x at h
  have h0 := h.1
  rw [Int.tmod_eq_emod_of_nonneg h0, wi64 _ (by omega) (by omega)]
  omega
theorem moment_id2 (t : Int) (h0 : 0 ≤ t) (h1 : t ≤ 4398046511104) : advMoment t = t := by
  unfold advMoment minI maxI
  split <;> split <;> omega
theorem check_iv (p : AdvParams) (h : advCheck p = 0) : 32 ≤ p.Interval ∧ p.Interval ≤ 16384 := by
  unfold advCheck at h
  by_cases hb : (bif decide (p.Interval < (32 : Int)) then true else decide ((16384 : Int) < p.Interval)) = true
  · rw [hb] at h
    simp only [cond_true] at h
    cases h0 : p.Kind == (0 : Int) <;> cases h1 : p.Kind == (1 : Int) <;> cases h2 : p.Kind == (2 : Int) <;> cases h6 : p.Kind == (6 : Int) <;> rw [h0, h1, h2, h6] at h <;> simp at h
  · rw [Bool.not_eq_true] at hb
    by_cases h0 : p.Interval < 32
    · rw [decide_eq_true h0] at hb; cases hb
    · by_cases h1 : 16384 < p.Interval
      · rw [decide_eq_false h0, decide_eq_true h1] at hb; cases hb
      · omega
def sendP (p : AdvParams) : AdvPDU := ⟨p.Kind, p.Own, p.Target, p.Data, ConnParams.zero⟩
theorem fire_due (p : AdvParams) (ev nx : Int) (hs : U64 p.Seed) (h0 : 0 ≤ nx) (h1 : nx ≤ 2199023255552) (hi : 32 ≤ p.Interval ∧ p.Interval ≤ 16384) :
    advFire ⟨p, true, ev, nx⟩ nx = (⟨p, true, IntKind.wrap .i64 (ev + 1), nx + p.Interval * 625 + advDelay p.Seed ev⟩, [⟨37, nx, sendP p⟩, ⟨38, nx + 1000, sendP p⟩, ⟨39, nx + 2000, sendP p⟩]) := by
  have hm := moment_id2 nx h0 (by omega)
  have hd := delay_range p.Seed ev hs
  have e : advFire ⟨p, true, ev, nx⟩ nx = (⟨p, true, IntKind.wrap .i64 (ev + 1), IntKind.wrap .i64 (IntKind.wrap .i64 (nx + IntKind.wrap .i64 (p.Interval * 625)) + advDelay p.Seed ev)⟩, [⟨37, IntKind.wrap .i64 (nx + 0), sendP p⟩, ⟨38, IntKind.wrap .i64 (nx + 1000), sendP p⟩, ⟨39, IntKind.wrap .i64 (nx + 2000), sendP p⟩]) := by
    unfold advFire
    simp only [advOwn_eq, hm, Bool.not_true, cond_false, Int.lt_irrefl, decide_false, advPDU_eq]
    kernel_rfl
  rw [e, wi64 (p.Interval * 625) (by omega) (by omega), wi64 (nx + p.Interval * 625) (by omega) (by omega), wi64 (nx + p.Interval * 625 + advDelay p.Seed ev) (by omega) (by omega), wi64 (nx + 0) (by omega) (by omega), wi64 (nx + 1000) (by omega) (by omega), wi64 (nx + 2000) (by omega) (by omega), Int.add_zero]
theorem fire_early (p : AdvParams) (ev nx : Int) (h0 : 0 < nx) (h1 : nx ≤ 2199023255552) : advFire ⟨p, true, ev, nx⟩ (IntKind.wrap .i64 (nx - 1)) = (⟨p, true, ev, nx⟩, []) := by
  have hm := moment_id2 (nx - 1) (by omega) (by omega)
  unfold advFire
  simp only [advOwn_eq, wi64 (nx - 1) (by omega) (by omega), hm, Bool.not_true, cond_false, show nx - 1 < nx by omega, decide_true, cond_true]
theorem fire_off (p : AdvParams) (ev nx t : Int) : advFire (advStop ⟨p, true, ev, nx⟩) t = (⟨p, false, ev, nx⟩, []) := by
  have e : advStop ⟨p, true, ev, nx⟩ = ⟨p, false, ev, nx⟩ := by
    unfold advStop
    simp only [advOwn_eq]
  rw [e]
  unfold advFire
  simp only [advOwn_eq, Bool.not_false, cond_true]
theorem cf {b x y z : Bool} (h : b = false) (h2 : y = z) : cond b x y = z := by rw [h]; exact h2
theorem events_go (p : AdvParams) (p1 times : Int) (hs : U64 p.Seed) (hi : 32 ≤ p.Interval ∧ p.Interval ≤ 16384) (h0 : 0 ≤ p1) (h1 : p1 ≤ 1099511627776) (ht : times ≤ 20) (n : Nat) :
    ∀ (i ev nx : Int), 0 ≤ i → i ≤ 20 ∨ times ≤ i → (times - i).toNat < n → p1 ≤ nx → nx ≤ p1 + i * 10249999 → advertiserEvents.go p p1 times n i ⟨p, true, ev, nx⟩ = true := by
  induction n with
  | zero => intro i ev nx a1 a2 a3 a4 a5; omega
  | succ n ih =>
    intro i ev nx a1 a2 a3 a4 a5
    unfold advertiserEvents.go
    by_cases hit : i < times
    · have hd := delay_range p.Seed ev hs
      have hE : (bif decide ((0 : Int) < nx) then (((advFire ⟨p, true, ev, nx⟩ (IntKind.wrap IntKind.i64 (nx - (1 : Int)))).snd.length : Int) != (0 : Int)) else false) = false := by
        by_cases hn : 0 < nx
        · rw [fire_early p ev nx hn (by omega)]; simp
        · rw [decide_eq_false hn]; rfl
      rw [decide_eq_true hit, cond_true]
      dsimp only
      rw [hE, fire_due p ev nx hs (by omega) (by omega) hi]
      dsimp only
      rw [wi64 (p.Interval * 625) (by omega) (by omega), wi64 (nx + p.Interval * 625 + advDelay p.Seed ev - nx) (by omega) (by omega), wi64 (nx + p.Interval * 625 + advDelay p.Seed ev - nx - p.Interval * 625) (by omega) (by omega), wi64 (i + 1) (by omega) (by omega)]
      refine cf ?_ (cf ?_ (cf ?_ (cf ?_ (ih (i + 1) _ _ (by omega) (by omega) (by omega) (by omega) (by omega)))))
      · simp only [cond_or, Bool.or_eq_false_iff, decide_eq_false_iff_not]
        exact ⟨⟨⟨⟨⟨⟨by omega, by omega⟩, trivial⟩, rfl⟩, by omega⟩, by omega⟩, rfl⟩
      all_goals simp only [cond_or, Bool.or_eq_false_iff]
      · refine ⟨⟨⟨⟨⟨rfl, ?_⟩, ?_⟩, ?_⟩, ?_⟩, ?_⟩
        · show (nx != IntKind.wrap .i64 (nx + 0)) = false
          rw [wi64 (nx + 0) (by omega) (by omega)]; simp
        · show (p.Kind != p.Kind) = false; simp
        · show (!(p.Own.Kind == p.Own.Kind && p.Own.Bits == p.Own.Bits)) = false; simp
        · show (!(p.Target.Kind == p.Target.Kind && p.Target.Bits == p.Target.Bits)) = false; simp
        · show (!r2Same p.Data p.Data) = false; rw [same2_refl]; rfl
      · refine ⟨⟨⟨⟨⟨rfl, ?_⟩, ?_⟩, ?_⟩, ?_⟩, ?_⟩
        · show (nx + 1000 != IntKind.wrap .i64 (nx + 1000)) = false
          rw [wi64 (nx + 1000) (by omega) (by omega)]; simp
        · show (p.Kind != p.Kind) = false; simp
        · show (!(p.Own.Kind == p.Own.Kind && p.Own.Bits == p.Own.Bits)) = false; simp
        · show (!(p.Target.Kind == p.Target.Kind && p.Target.Bits == p.Target.Bits)) = false; simp
        · show (!r2Same p.Data p.Data) = false; rw [same2_refl]; rfl
      · refine ⟨⟨⟨⟨⟨rfl, ?_⟩, ?_⟩, ?_⟩, ?_⟩, ?_⟩
        · show (nx + 2000 != IntKind.wrap .i64 (nx + 2000)) = false
          rw [wi64 (nx + 2000) (by omega) (by omega)]; simp
        · show (p.Kind != p.Kind) = false; simp
        · show (!(p.Own.Kind == p.Own.Kind && p.Own.Bits == p.Own.Bits)) = false; simp
        · show (!(p.Target.Kind == p.Target.Kind && p.Target.Bits == p.Target.Bits)) = false; simp
        · show (!r2Same p.Data p.Data) = false; rw [same2_refl]; rfl
    · rw [decide_eq_false hit, cond_false, fire_off]; rfl
theorem advertiserEvents_pre (p : AdvParams) (p1 times : Int) (b0 : p.has) (b1 : IntKind.has .i64 p1) (b2 : IntKind.has .i64 times) : p.Data.length ≤ 140737488355328 ∧ p.Scan.length ≤ 140737488355328 := by
  have h1 := b0.2.2.2.2.1.2
  have h2 := b0.2.2.2.2.2.1.2
  omega
theorem advertiserEvents_true (p : AdvParams) (p1 times : Int) (b0 : p.has) (b1 : IntKind.has .i64 p1) (b2 : IntKind.has .i64 times) : advertiserEvents p p1 times = true := by
  unfold advertiserEvents
  cases hs : small21 p
  · rfl
  by_cases h0 : p1 < 0
  · rw [decide_eq_true h0]; rfl
  by_cases h1 : 1099511627776 < p1
  · rw [decide_eq_true h1, decide_eq_false h0]; rfl
  by_cases h2 : 20 < times
  · rw [decide_eq_true h2, decide_eq_false h1, decide_eq_false h0]; rfl
  rw [decide_eq_false h0, decide_eq_false h1, decide_eq_false h2, own21_eq, start_form]
  simp only [Bool.not_true, cond_false]
  by_cases hz : advCheck p = 0
  · rw [hz]
    simp only [bne_self_eq_false, cond_false]
    rw [moment_id2 p1 (by omega) (by omega)]
    have hsd := b0.2.2.2.2.2.2.2.2.2
    exact events_go p p1 times (has_u64 hsd) (check_iv p hz) (by omega) (by omega) (by omega) _ 0 0 p1 (by omega) (by omega) (by omega) (by omega) (by omega)
  · rw [show (advCheck p != (0 : Int)) = true by simp [hz]]
    simp only [cond_true]
    rw [show (advCheck p != (0 : Int)) = true by simp [hz]]
    rfl
end Go.Aw.W
