/- Contracts of the seat (printed by ct.py). -/
import Derived.Test.YtlnbhdcaebmffaaW9
set_option linter.unusedVariables false
set_option linter.unusedSimpArgs false
set_option maxRecDepth 20000
set_option maxHeartbeats 1000000
namespace Go.Aw.W
open Go Go.Aw Go.Proofs
attribute [local irreducible] evCode evFun evOps evDs evOne ctxK loopK loopB subC bodyC headS okH roundK

theorem rs0 : r26size 0 = 12 := by decide
theorem rs1 : r26size 1 = 8 := by decide
theorem rs2 : r26size 2 = 2 := by decide
theorem rs3 : r26size 3 = 17 := by decide
theorem rs4 : r26size 4 = 9 := by decide
theorem rs5 : r26size 5 = 1 := by decide
theorem rs6 : r26size 6 = 1 := by decide
theorem rs7 : r26size 7 = 2 := by decide
theorem rs8 : r26size 8 = 9 := by decide
theorem rs9 : r26size 9 = 9 := by decide
theorem rs12 : r26size 12 = 2 := by decide
theorem rs13 : r26size 13 = 3 := by decide
theorem rs15 : r26size 15 = 10 := by decide
theorem rs18 : r26size 18 = 1 := by decide
theorem rs19 : r26size 19 = 1 := by decide
theorem rs20 : r26size 20 = 2 := by decide
theorem rs21 : r26size 21 = 2 := by decide
/-! wireless/wirelessref26.Check -/
def r26Check.res (r : Int) : AV El := .v (.int .i64 (r))
def r26Check.news (r : Int) : List (AObj El) := []
def r26Check.L (e v : Int) : Prop := r26Check.res e = r26Check.res v ∧ r26Check.news e = r26Check.news v
def r26Check_1 (c : Control) : Bool := ((r26rest c).Kind == 0 && ((r26rest c).Update.WinSize == 0 && ((r26rest c).Update.WinOffset == 0 && ((r26rest c).Update.Interval == 0 && ((r26rest c).Update.Latency == 0 && ((r26rest c).Update.Timeout == 0 && ((r26rest c).Map == 0 && ((r26rest c).Instant == 0 && ((r26rest c).Reason == 0 && ((r26rest c).Rejected == 0 && ((r26rest c).Salt == 0 && ((r26rest c).Mark == 0 && ((r26rest c).Features == 0 && ((r26rest c).Version == 0 && (r26rest c).Length == 0))))))))))))))
def r26Check (c : Control) : Int := cond (c.Kind == 0) (cond (!(r26Check_1 c)) (1) (cond (r17CheckUpdate c.Update != 0) (r17CheckUpdate c.Update) (cond (bif bif bif !r26isByte c.Reason then true else !r26isByte c.Rejected then true else !r26isByte c.Version then true else bif false then bif decide (c.Length < 27) then true else decide (251 < c.Length) else false) (5) (0)))) (cond (c.Kind == 1) (cond (!(r26Check_1 c)) (1) (cond (r12Check c.Map != 0) (r12Check c.Map) (cond (bif bif bif !r26isByte c.Reason then true else !r26isByte c.Rejected then true else !r26isByte c.Version then true else bif false then bif decide (c.Length < 27) then true else decide (251 < c.Length) else false) (5) (0)))) (cond (c.Kind == 2) (cond (!(r26Check_1 c)) (1) (cond (bif bif bif !r26isByte c.Reason then true else !r26isByte c.Rejected then true else !r26isByte c.Version then true else bif false then bif decide (c.Length < 27) then true else decide (251 < c.Length) else false) (5) (0))) (cond (c.Kind == 3) (cond (!(r26Check_1 c)) (1) (cond (bif bif bif !r26isByte c.Reason then true else !r26isByte c.Rejected then true else !r26isByte c.Version then true else bif false then bif decide (c.Length < 27) then true else decide (251 < c.Length) else false) (5) (0))) (cond (c.Kind == 4) (cond (!(r26Check_1 c)) (1) (cond (bif bif bif !r26isByte c.Reason then true else !r26isByte c.Rejected then true else !r26isByte c.Version then true else bif false then bif decide (c.Length < 27) then true else decide (251 < c.Length) else false) (5) (0))) (cond (c.Kind == 5) (cond (!(r26Check_1 c)) (1) (cond (bif bif bif !r26isByte c.Reason then true else !r26isByte c.Rejected then true else !r26isByte c.Version then true else bif false then bif decide (c.Length < 27) then true else decide (251 < c.Length) else false) (5) (0))) (cond (c.Kind == 6) (cond (!(r26Check_1 c)) (1) (cond (bif bif bif !r26isByte c.Reason then true else !r26isByte c.Rejected then true else !r26isByte c.Version then true else bif false then bif decide (c.Length < 27) then true else decide (251 < c.Length) else false) (5) (0))) (cond (c.Kind == 18) (cond (!(r26Check_1 c)) (1) (cond (bif bif bif !r26isByte c.Reason then true else !r26isByte c.Rejected then true else !r26isByte c.Version then true else bif false then bif decide (c.Length < 27) then true else decide (251 < c.Length) else false) (5) (0))) (cond (c.Kind == 19) (cond (!(r26Check_1 c)) (1) (cond (bif bif bif !r26isByte c.Reason then true else !r26isByte c.Rejected then true else !r26isByte c.Version then true else bif false then bif decide (c.Length < 27) then true else decide (251 < c.Length) else false) (5) (0))) (cond (c.Kind == 7) (cond (!(r26Check_1 c)) (1) (cond (bif bif bif !r26isByte c.Reason then true else !r26isByte c.Rejected then true else !r26isByte c.Version then true else bif false then bif decide (c.Length < 27) then true else decide (251 < c.Length) else false) (5) (0))) (cond (c.Kind == 8) (cond (!(r26Check_1 c)) (1) (cond (bif bif bif !r26isByte c.Reason then true else !r26isByte c.Rejected then true else !r26isByte c.Version then true else bif false then bif decide (c.Length < 27) then true else decide (251 < c.Length) else false) (5) (0))) (cond (c.Kind == 9) (cond (!(r26Check_1 c)) (1) (cond (bif bif bif !r26isByte c.Reason then true else !r26isByte c.Rejected then true else !r26isByte c.Version then true else bif false then bif decide (c.Length < 27) then true else decide (251 < c.Length) else false) (5) (0))) (cond (c.Kind == 12) (cond (!(r26Check_1 c)) (1) (cond (bif bif bif !r26isByte c.Reason then true else !r26isByte c.Rejected then true else !r26isByte c.Version then true else bif false then bif decide (c.Length < 27) then true else decide (251 < c.Length) else false) (5) (0))) (cond (c.Kind == 13) (cond (!(r26Check_1 c)) (1) (cond (bif bif bif !r26isByte c.Reason then true else !r26isByte c.Rejected then true else !r26isByte c.Version then true else bif false then bif decide (c.Length < 27) then true else decide (251 < c.Length) else false) (5) (0))) (cond (c.Kind == 15) (cond (!(r26Check_1 c)) (1) (cond (r17CheckUpdate c.Update != 0) (r17CheckUpdate c.Update) (cond (bif bif bif !r26isByte c.Reason then true else !r26isByte c.Rejected then true else !r26isByte c.Version then true else bif false then bif decide (c.Length < 27) then true else decide (251 < c.Length) else false) (5) (0)))) (cond (c.Kind == 20) (cond (!(r26Check_1 c)) (1) (cond (bif bif bif !r26isByte c.Reason then true else !r26isByte c.Rejected then true else !r26isByte c.Version then true else bif true then bif decide (c.Length < 27) then true else decide (251 < c.Length) else false) (5) (0))) (cond (c.Kind == 21) (cond (!(r26Check_1 c)) (1) (cond (bif bif bif !r26isByte c.Reason then true else !r26isByte c.Rejected then true else !r26isByte c.Version then true else bif true then bif decide (c.Length < 27) then true else decide (251 < c.Length) else false) (5) (0))) (12)))))))))))))))))
def r26Check.dec (cs : List (AV El)) : Option (Control) := popA Control.dec cs fun a0 c0 => popE c0 a0
def r26Check.enc (x : Control) : List (AV El) := [Control.av x]
theorem r26Check.dec_ok : ∀ cs x, r26Check.dec cs = some x → Imp (S := S) cs (r26Check.enc x) := by
  intro cs x h
  unfold r26Check.dec at h
  obtain ⟨a0, c0, h0, k0⟩ := popA_some (S := S) Control.dec_ok h
  obtain ⟨rfl, rfl⟩ := popE_some (S := S) h0
  exact (k0 _ (.refl _))
def r26Check_nf_1 (c : Control) : Bool := ((r26rest c).Kind == 0 && ((r26rest c).Update.WinSize == 0 && ((r26rest c).Update.WinOffset == 0 && ((r26rest c).Update.Interval == 0 && ((r26rest c).Update.Latency == 0 && ((r26rest c).Update.Timeout == 0 && ((r26rest c).Map == 0 && ((r26rest c).Instant == 0 && ((r26rest c).Reason == 0 && ((r26rest c).Rejected == 0 && ((r26rest c).Salt == 0 && ((r26rest c).Mark == 0 && ((r26rest c).Features == 0 && ((r26rest c).Version == 0 && (r26rest c).Length == 0))))))))))))))
def r26Check.nf (c : Control) (v : Int) : Prop := cond (c.Kind == 0) (cond (!(r26Check_nf_1 c)) (r26Check.L (1) v) (cond (r17CheckUpdate c.Update != 0) (r26Check.L (r17CheckUpdate c.Update) v) (Ob (o3 (!!r26isByte c.Reason)) ∧ (Ob (o3 (!!r26isByte c.Reason)) ∧ (Ob (o3 (!!r26isByte c.Reason)) ∧ (Ob (on (!r26isByte c.Reason)) ∧ (Ob (o3 (!bif !r26isByte c.Reason then true else !r26isByte c.Rejected)) ∧ (Ob (o3 (!bif !r26isByte c.Reason then true else !r26isByte c.Rejected)) ∧ (Ob (o3 (!bif !r26isByte c.Reason then true else !r26isByte c.Rejected)) ∧ (Ob (on (bif !r26isByte c.Reason then true else !r26isByte c.Rejected)) ∧ (Ob (o3 (!bif bif !r26isByte c.Reason then true else !r26isByte c.Rejected then true else !r26isByte c.Version)) ∧ (Ob (o3 (!bif bif !r26isByte c.Reason then true else !r26isByte c.Rejected then true else !r26isByte c.Version)) ∧ (Ob (o3 ((!bif bif !r26isByte c.Reason then true else !r26isByte c.Rejected then true else !r26isByte c.Version) && false)) ∧ (Ob (o3 ((!bif bif !r26isByte c.Reason then true else !r26isByte c.Rejected then true else !r26isByte c.Version) && false)) ∧ (Ob (o3 ((!bif bif !r26isByte c.Reason then true else !r26isByte c.Rejected then true else !r26isByte c.Version) && false)) ∧ (Ob (o3 ((!bif bif !r26isByte c.Reason then true else !r26isByte c.Rejected then true else !r26isByte c.Version) && false && !decide (c.Length < 27))) ∧ (Ob (o3 ((!bif bif !r26isByte c.Reason then true else !r26isByte c.Rejected then true else !r26isByte c.Version) && false && !decide (c.Length < 27))) ∧ (Ob (o2 ((!bif bif !r26isByte c.Reason then true else !r26isByte c.Rejected then true else !r26isByte c.Version) && false)) ∧ (Ob (((!bif bif !r26isByte c.Reason then true else !r26isByte c.Rejected then true else !r26isByte c.Version) && false) = true → decide (c.Length < 27) = false → ((!bif bif !r26isByte c.Reason then true else !r26isByte c.Rejected then true else !r26isByte c.Version) && false && !decide (c.Length < 27)) = true) ∧ (Ob (o2 (!bif bif !r26isByte c.Reason then true else !r26isByte c.Rejected then true else !r26isByte c.Version)) ∧ (Ob ((!bif bif !r26isByte c.Reason then true else !r26isByte c.Rejected then true else !r26isByte c.Version) = true → false = true → ((!bif bif !r26isByte c.Reason then true else !r26isByte c.Rejected then true else !r26isByte c.Version) && false) = true) ∧ (Ob (on (bif bif !r26isByte c.Reason then true else !r26isByte c.Rejected then true else !r26isByte c.Version)) ∧ (cond (bif bif bif !r26isByte c.Reason then true else !r26isByte c.Rejected then true else !r26isByte c.Version then true else bif false then bif decide (c.Length < 27) then true else decide (251 < c.Length) else false) (r26Check.L (5) v) (r26Check.L (0) v)))))))))))))))))))))))) (cond (c.Kind == 1) (cond (!(r26Check_nf_1 c)) (r26Check.L (1) v) (cond (r12Check c.Map != 0) (r26Check.L (r12Check c.Map) v) (Ob (o3 (!!r26isByte c.Reason)) ∧ (Ob (o3 (!!r26isByte c.Reason)) ∧ (Ob (o3 (!!r26isByte c.Reason)) ∧ (Ob (on (!r26isByte c.Reason)) ∧ (Ob (o3 (!bif !r26isByte c.Reason then true else !r26isByte c.Rejected)) ∧ (Ob (o3 (!bif !r26isByte c.Reason then true else !r26isByte c.Rejected)) ∧ (Ob (o3 (!bif !r26isByte c.Reason then true else !r26isByte c.Rejected)) ∧ (Ob (on (bif !r26isByte c.Reason then true else !r26isByte c.Rejected)) ∧ (Ob (o3 (!bif bif !r26isByte c.Reason then true else !r26isByte c.Rejected then true else !r26isByte c.Version)) ∧ (Ob (o3 (!bif bif !r26isByte c.Reason then true else !r26isByte c.Rejected then true else !r26isByte c.Version)) ∧ (Ob (o3 ((!bif bif !r26isByte c.Reason then true else !r26isByte c.Rejected then true else !r26isByte c.Version) && false)) ∧ (Ob (o3 ((!bif bif !r26isByte c.Reason then true else !r26isByte c.Rejected then true else !r26isByte c.Version) && false)) ∧ (Ob (o3 ((!bif bif !r26isByte c.Reason then true else !r26isByte c.Rejected then true else !r26isByte c.Version) && false)) ∧ (Ob (o3 ((!bif bif !r26isByte c.Reason then true else !r26isByte c.Rejected then true else !r26isByte c.Version) && false && !decide (c.Length < 27))) ∧ (Ob (o3 ((!bif bif !r26isByte c.Reason then true else !r26isByte c.Rejected then true else !r26isByte c.Version) && false && !decide (c.Length < 27))) ∧ (Ob (o2 ((!bif bif !r26isByte c.Reason then true else !r26isByte c.Rejected then true else !r26isByte c.Version) && false)) ∧ (Ob (((!bif bif !r26isByte c.Reason then true else !r26isByte c.Rejected then true else !r26isByte c.Version) && false) = true → decide (c.Length < 27) = false → ((!bif bif !r26isByte c.Reason then true else !r26isByte c.Rejected then true else !r26isByte c.Version) && false && !decide (c.Length < 27)) = true) ∧ (Ob (o2 (!bif bif !r26isByte c.Reason then true else !r26isByte c.Rejected then true else !r26isByte c.Version)) ∧ (Ob ((!bif bif !r26isByte c.Reason then true else !r26isByte c.Rejected then true else !r26isByte c.Version) = true → false = true → ((!bif bif !r26isByte c.Reason then true else !r26isByte c.Rejected then true else !r26isByte c.Version) && false) = true) ∧ (Ob (on (bif bif !r26isByte c.Reason then true else !r26isByte c.Rejected then true else !r26isByte c.Version)) ∧ (cond (bif bif bif !r26isByte c.Reason then true else !r26isByte c.Rejected then true else !r26isByte c.Version then true else bif false then bif decide (c.Length < 27) then true else decide (251 < c.Length) else false) (r26Check.L (5) v) (r26Check.L (0) v)))))))))))))))))))))))) (cond (c.Kind == 2) (cond (!(r26Check_nf_1 c)) (r26Check.L (1) v) (Ob (o3 (!!r26isByte c.Reason)) ∧ (Ob (o3 (!!r26isByte c.Reason)) ∧ (Ob (o3 (!!r26isByte c.Reason)) ∧ (Ob (on (!r26isByte c.Reason)) ∧ (Ob (o3 (!bif !r26isByte c.Reason then true else !r26isByte c.Rejected)) ∧ (Ob (o3 (!bif !r26isByte c.Reason then true else !r26isByte c.Rejected)) ∧ (Ob (o3 (!bif !r26isByte c.Reason then true else !r26isByte c.Rejected)) ∧ (Ob (on (bif !r26isByte c.Reason then true else !r26isByte c.Rejected)) ∧ (Ob (o3 (!bif bif !r26isByte c.Reason then true else !r26isByte c.Rejected then true else !r26isByte c.Version)) ∧ (Ob (o3 (!bif bif !r26isByte c.Reason then true else !r26isByte c.Rejected then true else !r26isByte c.Version)) ∧ (Ob (o3 ((!bif bif !r26isByte c.Reason then true else !r26isByte c.Rejected then true else !r26isByte c.Version) && false)) ∧ (Ob (o3 ((!bif bif !r26isByte c.Reason then true else !r26isByte c.Rejected then true else !r26isByte c.Version) && false)) ∧ (Ob (o3 ((!bif bif !r26isByte c.Reason then true else !r26isByte c.Rejected then true else !r26isByte c.Version) && false)) ∧ (Ob (o3 ((!bif bif !r26isByte c.Reason then true else !r26isByte c.Rejected then true else !r26isByte c.Version) && false && !decide (c.Length < 27))) ∧ (Ob (o3 ((!bif bif !r26isByte c.Reason then true else !r26isByte c.Rejected then true else !r26isByte c.Version) && false && !decide (c.Length < 27))) ∧ (Ob (o2 ((!bif bif !r26isByte c.Reason then true else !r26isByte c.Rejected then true else !r26isByte c.Version) && false)) ∧ (Ob (((!bif bif !r26isByte c.Reason then true else !r26isByte c.Rejected then true else !r26isByte c.Version) && false) = true → decide (c.Length < 27) = false → ((!bif bif !r26isByte c.Reason then true else !r26isByte c.Rejected then true else !r26isByte c.Version) && false && !decide (c.Length < 27)) = true) ∧ (Ob (o2 (!bif bif !r26isByte c.Reason then true else !r26isByte c.Rejected then true else !r26isByte c.Version)) ∧ (Ob ((!bif bif !r26isByte c.Reason then true else !r26isByte c.Rejected then true else !r26isByte c.Version) = true → false = true → ((!bif bif !r26isByte c.Reason then true else !r26isByte c.Rejected then true else !r26isByte c.Version) && false) = true) ∧ (Ob (on (bif bif !r26isByte c.Reason then true else !r26isByte c.Rejected then true else !r26isByte c.Version)) ∧ (cond (bif bif bif !r26isByte c.Reason then true else !r26isByte c.Rejected then true else !r26isByte c.Version then true else bif false then bif decide (c.Length < 27) then true else decide (251 < c.Length) else false) (r26Check.L (5) v) (r26Check.L (0) v))))))))))))))))))))))) (cond (c.Kind == 3) (cond (!(r26Check_nf_1 c)) (r26Check.L (1) v) (Ob (o3 (!!r26isByte c.Reason)) ∧ (Ob (o3 (!!r26isByte c.Reason)) ∧ (Ob (o3 (!!r26isByte c.Reason)) ∧ (Ob (on (!r26isByte c.Reason)) ∧ (Ob (o3 (!bif !r26isByte c.Reason then true else !r26isByte c.Rejected)) ∧ (Ob (o3 (!bif !r26isByte c.Reason then true else !r26isByte c.Rejected)) ∧ (Ob (o3 (!bif !r26isByte c.Reason then true else !r26isByte c.Rejected)) ∧ (Ob (on (bif !r26isByte c.Reason then true else !r26isByte c.Rejected)) ∧ (Ob (o3 (!bif bif !r26isByte c.Reason then true else !r26isByte c.Rejected then true else !r26isByte c.Version)) ∧ (Ob (o3 (!bif bif !r26isByte c.Reason then true else !r26isByte c.Rejected then true else !r26isByte c.Version)) ∧ (Ob (o3 ((!bif bif !r26isByte c.Reason then true else !r26isByte c.Rejected then true else !r26isByte c.Version) && false)) ∧ (Ob (o3 ((!bif bif !r26isByte c.Reason then true else !r26isByte c.Rejected then true else !r26isByte c.Version) && false)) ∧ (Ob (o3 ((!bif bif !r26isByte c.Reason then true else !r26isByte c.Rejected then true else !r26isByte c.Version) && false)) ∧ (Ob (o3 ((!bif bif !r26isByte c.Reason then true else !r26isByte c.Rejected then true else !r26isByte c.Version) && false && !decide (c.Length < 27))) ∧ (Ob (o3 ((!bif bif !r26isByte c.Reason then true else !r26isByte c.Rejected then true else !r26isByte c.Version) && false && !decide (c.Length < 27))) ∧ (Ob (o2 ((!bif bif !r26isByte c.Reason then true else !r26isByte c.Rejected then true else !r26isByte c.Version) && false)) ∧ (Ob (((!bif bif !r26isByte c.Reason then true else !r26isByte c.Rejected then true else !r26isByte c.Version) && false) = true → decide (c.Length < 27) = false → ((!bif bif !r26isByte c.Reason then true else !r26isByte c.Rejected then true else !r26isByte c.Version) && false && !decide (c.Length < 27)) = true) ∧ (Ob (o2 (!bif bif !r26isByte c.Reason then true else !r26isByte c.Rejected then true else !r26isByte c.Version)) ∧ (Ob ((!bif bif !r26isByte c.Reason then true else !r26isByte c.Rejected then true else !r26isByte c.Version) = true → false = true → ((!bif bif !r26isByte c.Reason then true else !r26isByte c.Rejected then true else !r26isByte c.Version) && false) = true) ∧ (Ob (on (bif bif !r26isByte c.Reason then true else !r26isByte c.Rejected then true else !r26isByte c.Version)) ∧ (cond (bif bif bif !r26isByte c.Reason then true else !r26isByte c.Rejected then true else !r26isByte c.Version then true else bif false then bif decide (c.Length < 27) then true else decide (251 < c.Length) else false) (r26Check.L (5) v) (r26Check.L (0) v))))))))))))))))))))))) (cond (c.Kind == 4) (cond (!(r26Check_nf_1 c)) (r26Check.L (1) v) (Ob (o3 (!!r26isByte c.Reason)) ∧ (Ob (o3 (!!r26isByte c.Reason)) ∧ (Ob (o3 (!!r26isByte c.Reason)) ∧ (Ob (on (!r26isByte c.Reason)) ∧ (Ob (o3 (!bif !r26isByte c.Reason then true else !r26isByte c.Rejected)) ∧ (Ob (o3 (!bif !r26isByte c.Reason then true else !r26isByte c.Rejected)) ∧ (Ob (o3 (!bif !r26isByte c.Reason then true else !r26isByte c.Rejected)) ∧ (Ob (on (bif !r26isByte c.Reason then true else !r26isByte c.Rejected)) ∧ (Ob (o3 (!bif bif !r26isByte c.Reason then true else !r26isByte c.Rejected then true else !r26isByte c.Version)) ∧ (Ob (o3 (!bif bif !r26isByte c.Reason then true else !r26isByte c.Rejected then true else !r26isByte c.Version)) ∧ (Ob (o3 ((!bif bif !r26isByte c.Reason then true else !r26isByte c.Rejected then true else !r26isByte c.Version) && false)) ∧ (Ob (o3 ((!bif bif !r26isByte c.Reason then true else !r26isByte c.Rejected then true else !r26isByte c.Version) && false)) ∧ (Ob (o3 ((!bif bif !r26isByte c.Reason then true else !r26isByte c.Rejected then true else !r26isByte c.Version) && false)) ∧ (Ob (o3 ((!bif bif !r26isByte c.Reason then true else !r26isByte c.Rejected then true else !r26isByte c.Version) && false && !decide (c.Length < 27))) ∧ (Ob (o3 ((!bif bif !r26isByte c.Reason then true else !r26isByte c.Rejected then true else !r26isByte c.Version) && false && !decide (c.Length < 27))) ∧ (Ob (o2 ((!bif bif !r26isByte c.Reason then true else !r26isByte c.Rejected then true else !r26isByte c.Version) && false)) ∧ (Ob (((!bif bif !r26isByte c.Reason then true else !r26isByte c.Rejected then true else !r26isByte c.Version) && false) = true → decide (c.Length < 27) = false → ((!bif bif !r26isByte c.Reason then true else !r26isByte c.Rejected then true else !r26isByte c.Version) && false && !decide (c.Length < 27)) = true) ∧ (Ob (o2 (!bif bif !r26isByte c.Reason then true else !r26isByte c.Rejected then true else !r26isByte c.Version)) ∧ (Ob ((!bif bif !r26isByte c.Reason then true else !r26isByte c.Rejected then true else !r26isByte c.Version) = true → false = true → ((!bif bif !r26isByte c.Reason then true else !r26isByte c.Rejected then true else !r26isByte c.Version) && false) = true) ∧ (Ob (on (bif bif !r26isByte c.Reason then true else !r26isByte c.Rejected then true else !r26isByte c.Version)) ∧ (cond (bif bif bif !r26isByte c.Reason then true else !r26isByte c.Rejected then true else !r26isByte c.Version then true else bif false then bif decide (c.Length < 27) then true else decide (251 < c.Length) else false) (r26Check.L (5) v) (r26Check.L (0) v))))))))))))))))))))))) (cond (c.Kind == 5) (cond (!(r26Check_nf_1 c)) (r26Check.L (1) v) (Ob (o3 (!!r26isByte c.Reason)) ∧ (Ob (o3 (!!r26isByte c.Reason)) ∧ (Ob (o3 (!!r26isByte c.Reason)) ∧ (Ob (on (!r26isByte c.Reason)) ∧ (Ob (o3 (!bif !r26isByte c.Reason then true else !r26isByte c.Rejected)) ∧ (Ob (o3 (!bif !r26isByte c.Reason then true else !r26isByte c.Rejected)) ∧ (Ob (o3 (!bif !r26isByte c.Reason then true else !r26isByte c.Rejected)) ∧ (Ob (on (bif !r26isByte c.Reason then true else !r26isByte c.Rejected)) ∧ (Ob (o3 (!bif bif !r26isByte c.Reason then true else !r26isByte c.Rejected then true else !r26isByte c.Version)) ∧ (Ob (o3 (!bif bif !r26isByte c.Reason then true else !r26isByte c.Rejected then true else !r26isByte c.Version)) ∧ (Ob (o3 ((!bif bif !r26isByte c.Reason then true else !r26isByte c.Rejected then true else !r26isByte c.Version) && false)) ∧ (Ob (o3 ((!bif bif !r26isByte c.Reason then true else !r26isByte c.Rejected then true else !r26isByte c.Version) && false)) ∧ (Ob (o3 ((!bif bif !r26isByte c.Reason then true else !r26isByte c.Rejected then true else !r26isByte c.Version) && false)) ∧ (Ob (o3 ((!bif bif !r26isByte c.Reason then true else !r26isByte c.Rejected then true else !r26isByte c.Version) && false && !decide (c.Length < 27))) ∧ (Ob (o3 ((!bif bif !r26isByte c.Reason then true else !r26isByte c.Rejected then true else !r26isByte c.Version) && false && !decide (c.Length < 27))) ∧ (Ob (o2 ((!bif bif !r26isByte c.Reason then true else !r26isByte c.Rejected then true else !r26isByte c.Version) && false)) ∧ (Ob (((!bif bif !r26isByte c.Reason then true else !r26isByte c.Rejected then true else !r26isByte c.Version) && false) = true → decide (c.Length < 27) = false → ((!bif bif !r26isByte c.Reason then true else !r26isByte c.Rejected then true else !r26isByte c.Version) && false && !decide (c.Length < 27)) = true) ∧ (Ob (o2 (!bif bif !r26isByte c.Reason then true else !r26isByte c.Rejected then true else !r26isByte c.Version)) ∧ (Ob ((!bif bif !r26isByte c.Reason then true else !r26isByte c.Rejected then true else !r26isByte c.Version) = true → false = true → ((!bif bif !r26isByte c.Reason then true else !r26isByte c.Rejected then true else !r26isByte c.Version) && false) = true) ∧ (Ob (on (bif bif !r26isByte c.Reason then true else !r26isByte c.Rejected then true else !r26isByte c.Version)) ∧ (cond (bif bif bif !r26isByte c.Reason then true else !r26isByte c.Rejected then true else !r26isByte c.Version then true else bif false then bif decide (c.Length < 27) then true else decide (251 < c.Length) else false) (r26Check.L (5) v) (r26Check.L (0) v))))))))))))))))))))))) (cond (c.Kind == 6) (cond (!(r26Check_nf_1 c)) (r26Check.L (1) v) (Ob (o3 (!!r26isByte c.Reason)) ∧ (Ob (o3 (!!r26isByte c.Reason)) ∧ (Ob (o3 (!!r26isByte c.Reason)) ∧ (Ob (on (!r26isByte c.Reason)) ∧ (Ob (o3 (!bif !r26isByte c.Reason then true else !r26isByte c.Rejected)) ∧ (Ob (o3 (!bif !r26isByte c.Reason then true else !r26isByte c.Rejected)) ∧ (Ob (o3 (!bif !r26isByte c.Reason then true else !r26isByte c.Rejected)) ∧ (Ob (on (bif !r26isByte c.Reason then true else !r26isByte c.Rejected)) ∧ (Ob (o3 (!bif bif !r26isByte c.Reason then true else !r26isByte c.Rejected then true else !r26isByte c.Version)) ∧ (Ob (o3 (!bif bif !r26isByte c.Reason then true else !r26isByte c.Rejected then true else !r26isByte c.Version)) ∧ (Ob (o3 ((!bif bif !r26isByte c.Reason then true else !r26isByte c.Rejected then true else !r26isByte c.Version) && false)) ∧ (Ob (o3 ((!bif bif !r26isByte c.Reason then true else !r26isByte c.Rejected then true else !r26isByte c.Version) && false)) ∧ (Ob (o3 ((!bif bif !r26isByte c.Reason then true else !r26isByte c.Rejected then true else !r26isByte c.Version) && false)) ∧ (Ob (o3 ((!bif bif !r26isByte c.Reason then true else !r26isByte c.Rejected then true else !r26isByte c.Version) && false && !decide (c.Length < 27))) ∧ (Ob (o3 ((!bif bif !r26isByte c.Reason then true else !r26isByte c.Rejected then true else !r26isByte c.Version) && false && !decide (c.Length < 27))) ∧ (Ob (o2 ((!bif bif !r26isByte c.Reason then true else !r26isByte c.Rejected then true else !r26isByte c.Version) && false)) ∧ (Ob (((!bif bif !r26isByte c.Reason then true else !r26isByte c.Rejected then true else !r26isByte c.Version) && false) = true → decide (c.Length < 27) = false → ((!bif bif !r26isByte c.Reason then true else !r26isByte c.Rejected then true else !r26isByte c.Version) && false && !decide (c.Length < 27)) = true) ∧ (Ob (o2 (!bif bif !r26isByte c.Reason then true else !r26isByte c.Rejected then true else !r26isByte c.Version)) ∧ (Ob ((!bif bif !r26isByte c.Reason then true else !r26isByte c.Rejected then true else !r26isByte c.Version) = true → false = true → ((!bif bif !r26isByte c.Reason then true else !r26isByte c.Rejected then true else !r26isByte c.Version) && false) = true) ∧ (Ob (on (bif bif !r26isByte c.Reason then true else !r26isByte c.Rejected then true else !r26isByte c.Version)) ∧ (cond (bif bif bif !r26isByte c.Reason then true else !r26isByte c.Rejected then true else !r26isByte c.Version then true else bif false then bif decide (c.Length < 27) then true else decide (251 < c.Length) else false) (r26Check.L (5) v) (r26Check.L (0) v))))))))))))))))))))))) (cond (c.Kind == 18) (cond (!(r26Check_nf_1 c)) (r26Check.L (1) v) (Ob (o3 (!!r26isByte c.Reason)) ∧ (Ob (o3 (!!r26isByte c.Reason)) ∧ (Ob (o3 (!!r26isByte c.Reason)) ∧ (Ob (on (!r26isByte c.Reason)) ∧ (Ob (o3 (!bif !r26isByte c.Reason then true else !r26isByte c.Rejected)) ∧ (Ob (o3 (!bif !r26isByte c.Reason then true else !r26isByte c.Rejected)) ∧ (Ob (o3 (!bif !r26isByte c.Reason then true else !r26isByte c.Rejected)) ∧ (Ob (on (bif !r26isByte c.Reason then true else !r26isByte c.Rejected)) ∧ (Ob (o3 (!bif bif !r26isByte c.Reason then true else !r26isByte c.Rejected then true else !r26isByte c.Version)) ∧ (Ob (o3 (!bif bif !r26isByte c.Reason then true else !r26isByte c.Rejected then true else !r26isByte c.Version)) ∧ (Ob (o3 ((!bif bif !r26isByte c.Reason then true else !r26isByte c.Rejected then true else !r26isByte c.Version) && false)) ∧ (Ob (o3 ((!bif bif !r26isByte c.Reason then true else !r26isByte c.Rejected then true else !r26isByte c.Version) && false)) ∧ (Ob (o3 ((!bif bif !r26isByte c.Reason then true else !r26isByte c.Rejected then true else !r26isByte c.Version) && false)) ∧ (Ob (o3 ((!bif bif !r26isByte c.Reason then true else !r26isByte c.Rejected then true else !r26isByte c.Version) && false && !decide (c.Length < 27))) ∧ (Ob (o3 ((!bif bif !r26isByte c.Reason then true else !r26isByte c.Rejected then true else !r26isByte c.Version) && false && !decide (c.Length < 27))) ∧ (Ob (o2 ((!bif bif !r26isByte c.Reason then true else !r26isByte c.Rejected then true else !r26isByte c.Version) && false)) ∧ (Ob (((!bif bif !r26isByte c.Reason then true else !r26isByte c.Rejected then true else !r26isByte c.Version) && false) = true → decide (c.Length < 27) = false → ((!bif bif !r26isByte c.Reason then true else !r26isByte c.Rejected then true else !r26isByte c.Version) && false && !decide (c.Length < 27)) = true) ∧ (Ob (o2 (!bif bif !r26isByte c.Reason then true else !r26isByte c.Rejected then true else !r26isByte c.Version)) ∧ (Ob ((!bif bif !r26isByte c.Reason then true else !r26isByte c.Rejected then true else !r26isByte c.Version) = true → false = true → ((!bif bif !r26isByte c.Reason then true else !r26isByte c.Rejected then true else !r26isByte c.Version) && false) = true) ∧ (Ob (on (bif bif !r26isByte c.Reason then true else !r26isByte c.Rejected then true else !r26isByte c.Version)) ∧ (cond (bif bif bif !r26isByte c.Reason then true else !r26isByte c.Rejected then true else !r26isByte c.Version then true else bif false then bif decide (c.Length < 27) then true else decide (251 < c.Length) else false) (r26Check.L (5) v) (r26Check.L (0) v))))))))))))))))))))))) (cond (c.Kind == 19) (cond (!(r26Check_nf_1 c)) (r26Check.L (1) v) (Ob (o3 (!!r26isByte c.Reason)) ∧ (Ob (o3 (!!r26isByte c.Reason)) ∧ (Ob (o3 (!!r26isByte c.Reason)) ∧ (Ob (on (!r26isByte c.Reason)) ∧ (Ob (o3 (!bif !r26isByte c.Reason then true else !r26isByte c.Rejected)) ∧ (Ob (o3 (!bif !r26isByte c.Reason then true else !r26isByte c.Rejected)) ∧ (Ob (o3 (!bif !r26isByte c.Reason then true else !r26isByte c.Rejected)) ∧ (Ob (on (bif !r26isByte c.Reason then true else !r26isByte c.Rejected)) ∧ (Ob (o3 (!bif bif !r26isByte c.Reason then true else !r26isByte c.Rejected then true else !r26isByte c.Version)) ∧ (Ob (o3 (!bif bif !r26isByte c.Reason then true else !r26isByte c.Rejected then true else !r26isByte c.Version)) ∧ (Ob (o3 ((!bif bif !r26isByte c.Reason then true else !r26isByte c.Rejected then true else !r26isByte c.Version) && false)) ∧ (Ob (o3 ((!bif bif !r26isByte c.Reason then true else !r26isByte c.Rejected then true else !r26isByte c.Version) && false)) ∧ (Ob (o3 ((!bif bif !r26isByte c.Reason then true else !r26isByte c.Rejected then true else !r26isByte c.Version) && false)) ∧ (Ob (o3 ((!bif bif !r26isByte c.Reason then true else !r26isByte c.Rejected then true else !r26isByte c.Version) && false && !decide (c.Length < 27))) ∧ (Ob (o3 ((!bif bif !r26isByte c.Reason then true else !r26isByte c.Rejected then true else !r26isByte c.Version) && false && !decide (c.Length < 27))) ∧ (Ob (o2 ((!bif bif !r26isByte c.Reason then true else !r26isByte c.Rejected then true else !r26isByte c.Version) && false)) ∧ (Ob (((!bif bif !r26isByte c.Reason then true else !r26isByte c.Rejected then true else !r26isByte c.Version) && false) = true → decide (c.Length < 27) = false → ((!bif bif !r26isByte c.Reason then true else !r26isByte c.Rejected then true else !r26isByte c.Version) && false && !decide (c.Length < 27)) = true) ∧ (Ob (o2 (!bif bif !r26isByte c.Reason then true else !r26isByte c.Rejected then true else !r26isByte c.Version)) ∧ (Ob ((!bif bif !r26isByte c.Reason then true else !r26isByte c.Rejected then true else !r26isByte c.Version) = true → false = true → ((!bif bif !r26isByte c.Reason then true else !r26isByte c.Rejected then true else !r26isByte c.Version) && false) = true) ∧ (Ob (on (bif bif !r26isByte c.Reason then true else !r26isByte c.Rejected then true else !r26isByte c.Version)) ∧ (cond (bif bif bif !r26isByte c.Reason then true else !r26isByte c.Rejected then true else !r26isByte c.Version then true else bif false then bif decide (c.Length < 27) then true else decide (251 < c.Length) else false) (r26Check.L (5) v) (r26Check.L (0) v))))))))))))))))))))))) (cond (c.Kind == 7) (cond (!(r26Check_nf_1 c)) (r26Check.L (1) v) (Ob (o3 (!!r26isByte c.Reason)) ∧ (Ob (o3 (!!r26isByte c.Reason)) ∧ (Ob (o3 (!!r26isByte c.Reason)) ∧ (Ob (on (!r26isByte c.Reason)) ∧ (Ob (o3 (!bif !r26isByte c.Reason then true else !r26isByte c.Rejected)) ∧ (Ob (o3 (!bif !r26isByte c.Reason then true else !r26isByte c.Rejected)) ∧ (Ob (o3 (!bif !r26isByte c.Reason then true else !r26isByte c.Rejected)) ∧ (Ob (on (bif !r26isByte c.Reason then true else !r26isByte c.Rejected)) ∧ (Ob (o3 (!bif bif !r26isByte c.Reason then true else !r26isByte c.Rejected then true else !r26isByte c.Version)) ∧ (Ob (o3 (!bif bif !r26isByte c.Reason then true else !r26isByte c.Rejected then true else !r26isByte c.Version)) ∧ (Ob (o3 ((!bif bif !r26isByte c.Reason then true else !r26isByte c.Rejected then true else !r26isByte c.Version) && false)) ∧ (Ob (o3 ((!bif bif !r26isByte c.Reason then true else !r26isByte c.Rejected then true else !r26isByte c.Version) && false)) ∧ (Ob (o3 ((!bif bif !r26isByte c.Reason then true else !r26isByte c.Rejected then true else !r26isByte c.Version) && false)) ∧ (Ob (o3 ((!bif bif !r26isByte c.Reason then true else !r26isByte c.Rejected then true else !r26isByte c.Version) && false && !decide (c.Length < 27))) ∧ (Ob (o3 ((!bif bif !r26isByte c.Reason then true else !r26isByte c.Rejected then true else !r26isByte c.Version) && false && !decide (c.Length < 27))) ∧ (Ob (o2 ((!bif bif !r26isByte c.Reason then true else !r26isByte c.Rejected then true else !r26isByte c.Version) && false)) ∧ (Ob (((!bif bif !r26isByte c.Reason then true else !r26isByte c.Rejected then true else !r26isByte c.Version) && false) = true → decide (c.Length < 27) = false → ((!bif bif !r26isByte c.Reason then true else !r26isByte c.Rejected then true else !r26isByte c.Version) && false && !decide (c.Length < 27)) = true) ∧ (Ob (o2 (!bif bif !r26isByte c.Reason then true else !r26isByte c.Rejected then true else !r26isByte c.Version)) ∧ (Ob ((!bif bif !r26isByte c.Reason then true else !r26isByte c.Rejected then true else !r26isByte c.Version) = true → false = true → ((!bif bif !r26isByte c.Reason then true else !r26isByte c.Rejected then true else !r26isByte c.Version) && false) = true) ∧ (Ob (on (bif bif !r26isByte c.Reason then true else !r26isByte c.Rejected then true else !r26isByte c.Version)) ∧ (cond (bif bif bif !r26isByte c.Reason then true else !r26isByte c.Rejected then true else !r26isByte c.Version then true else bif false then bif decide (c.Length < 27) then true else decide (251 < c.Length) else false) (r26Check.L (5) v) (r26Check.L (0) v))))))))))))))))))))))) (cond (c.Kind == 8) (cond (!(r26Check_nf_1 c)) (r26Check.L (1) v) (Ob (o3 (!!r26isByte c.Reason)) ∧ (Ob (o3 (!!r26isByte c.Reason)) ∧ (Ob (o3 (!!r26isByte c.Reason)) ∧ (Ob (on (!r26isByte c.Reason)) ∧ (Ob (o3 (!bif !r26isByte c.Reason then true else !r26isByte c.Rejected)) ∧ (Ob (o3 (!bif !r26isByte c.Reason then true else !r26isByte c.Rejected)) ∧ (Ob (o3 (!bif !r26isByte c.Reason then true else !r26isByte c.Rejected)) ∧ (Ob (on (bif !r26isByte c.Reason then true else !r26isByte c.Rejected)) ∧ (Ob (o3 (!bif bif !r26isByte c.Reason then true else !r26isByte c.Rejected then true else !r26isByte c.Version)) ∧ (Ob (o3 (!bif bif !r26isByte c.Reason then true else !r26isByte c.Rejected then true else !r26isByte c.Version)) ∧ (Ob (o3 ((!bif bif !r26isByte c.Reason then true else !r26isByte c.Rejected then true else !r26isByte c.Version) && false)) ∧ (Ob (o3 ((!bif bif !r26isByte c.Reason then true else !r26isByte c.Rejected then true else !r26isByte c.Version) && false)) ∧ (Ob (o3 ((!bif bif !r26isByte c.Reason then true else !r26isByte c.Rejected then true else !r26isByte c.Version) && false)) ∧ (Ob (o3 ((!bif bif !r26isByte c.Reason then true else !r26isByte c.Rejected then true else !r26isByte c.Version) && false && !decide (c.Length < 27))) ∧ (Ob (o3 ((!bif bif !r26isByte c.Reason then true else !r26isByte c.Rejected then true else !r26isByte c.Version) && false && !decide (c.Length < 27))) ∧ (Ob (o2 ((!bif bif !r26isByte c.Reason then true else !r26isByte c.Rejected then true else !r26isByte c.Version) && false)) ∧ (Ob (((!bif bif !r26isByte c.Reason then true else !r26isByte c.Rejected then true else !r26isByte c.Version) && false) = true → decide (c.Length < 27) = false → ((!bif bif !r26isByte c.Reason then true else !r26isByte c.Rejected then true else !r26isByte c.Version) && false && !decide (c.Length < 27)) = true) ∧ (Ob (o2 (!bif bif !r26isByte c.Reason then true else !r26isByte c.Rejected then true else !r26isByte c.Version)) ∧ (Ob ((!bif bif !r26isByte c.Reason then true else !r26isByte c.Rejected then true else !r26isByte c.Version) = true → false = true → ((!bif bif !r26isByte c.Reason then true else !r26isByte c.Rejected then true else !r26isByte c.Version) && false) = true) ∧ (Ob (on (bif bif !r26isByte c.Reason then true else !r26isByte c.Rejected then true else !r26isByte c.Version)) ∧ (cond (bif bif bif !r26isByte c.Reason then true else !r26isByte c.Rejected then true else !r26isByte c.Version then true else bif false then bif decide (c.Length < 27) then true else decide (251 < c.Length) else false) (r26Check.L (5) v) (r26Check.L (0) v))))))))))))))))))))))) (cond (c.Kind == 9) (cond (!(r26Check_nf_1 c)) (r26Check.L (1) v) (Ob (o3 (!!r26isByte c.Reason)) ∧ (Ob (o3 (!!r26isByte c.Reason)) ∧ (Ob (o3 (!!r26isByte c.Reason)) ∧ (Ob (on (!r26isByte c.Reason)) ∧ (Ob (o3 (!bif !r26isByte c.Reason then true else !r26isByte c.Rejected)) ∧ (Ob (o3 (!bif !r26isByte c.Reason then true else !r26isByte c.Rejected)) ∧ (Ob (o3 (!bif !r26isByte c.Reason then true else !r26isByte c.Rejected)) ∧ (Ob (on (bif !r26isByte c.Reason then true else !r26isByte c.Rejected)) ∧ (Ob (o3 (!bif bif !r26isByte c.Reason then true else !r26isByte c.Rejected then true else !r26isByte c.Version)) ∧ (Ob (o3 (!bif bif !r26isByte c.Reason then true else !r26isByte c.Rejected then true else !r26isByte c.Version)) ∧ (Ob (o3 ((!bif bif !r26isByte c.Reason then true else !r26isByte c.Rejected then true else !r26isByte c.Version) && false)) ∧ (Ob (o3 ((!bif bif !r26isByte c.Reason then true else !r26isByte c.Rejected then true else !r26isByte c.Version) && false)) ∧ (Ob (o3 ((!bif bif !r26isByte c.Reason then true else !r26isByte c.Rejected then true else !r26isByte c.Version) && false)) ∧ (Ob (o3 ((!bif bif !r26isByte c.Reason then true else !r26isByte c.Rejected then true else !r26isByte c.Version) && false && !decide (c.Length < 27))) ∧ (Ob (o3 ((!bif bif !r26isByte c.Reason then true else !r26isByte c.Rejected then true else !r26isByte c.Version) && false && !decide (c.Length < 27))) ∧ (Ob (o2 ((!bif bif !r26isByte c.Reason then true else !r26isByte c.Rejected then true else !r26isByte c.Version) && false)) ∧ (Ob (((!bif bif !r26isByte c.Reason then true else !r26isByte c.Rejected then true else !r26isByte c.Version) && false) = true → decide (c.Length < 27) = false → ((!bif bif !r26isByte c.Reason then true else !r26isByte c.Rejected then true else !r26isByte c.Version) && false && !decide (c.Length < 27)) = true) ∧ (Ob (o2 (!bif bif !r26isByte c.Reason then true else !r26isByte c.Rejected then true else !r26isByte c.Version)) ∧ (Ob ((!bif bif !r26isByte c.Reason then true else !r26isByte c.Rejected then true else !r26isByte c.Version) = true → false = true → ((!bif bif !r26isByte c.Reason then true else !r26isByte c.Rejected then true else !r26isByte c.Version) && false) = true) ∧ (Ob (on (bif bif !r26isByte c.Reason then true else !r26isByte c.Rejected then true else !r26isByte c.Version)) ∧ (cond (bif bif bif !r26isByte c.Reason then true else !r26isByte c.Rejected then true else !r26isByte c.Version then true else bif false then bif decide (c.Length < 27) then true else decide (251 < c.Length) else false) (r26Check.L (5) v) (r26Check.L (0) v))))))))))))))))))))))) (cond (c.Kind == 12) (cond (!(r26Check_nf_1 c)) (r26Check.L (1) v) (Ob (o3 (!!r26isByte c.Reason)) ∧ (Ob (o3 (!!r26isByte c.Reason)) ∧ (Ob (o3 (!!r26isByte c.Reason)) ∧ (Ob (on (!r26isByte c.Reason)) ∧ (Ob (o3 (!bif !r26isByte c.Reason then true else !r26isByte c.Rejected)) ∧ (Ob (o3 (!bif !r26isByte c.Reason then true else !r26isByte c.Rejected)) ∧ (Ob (o3 (!bif !r26isByte c.Reason then true else !r26isByte c.Rejected)) ∧ (Ob (on (bif !r26isByte c.Reason then true else !r26isByte c.Rejected)) ∧ (Ob (o3 (!bif bif !r26isByte c.Reason then true else !r26isByte c.Rejected then true else !r26isByte c.Version)) ∧ (Ob (o3 (!bif bif !r26isByte c.Reason then true else !r26isByte c.Rejected then true else !r26isByte c.Version)) ∧ (Ob (o3 ((!bif bif !r26isByte c.Reason then true else !r26isByte c.Rejected then true else !r26isByte c.Version) && false)) ∧ (Ob (o3 ((!bif bif !r26isByte c.Reason then true else !r26isByte c.Rejected then true else !r26isByte c.Version) && false)) ∧ (Ob (o3 ((!bif bif !r26isByte c.Reason then true else !r26isByte c.Rejected then true else !r26isByte c.Version) && false)) ∧ (Ob (o3 ((!bif bif !r26isByte c.Reason then true else !r26isByte c.Rejected then true else !r26isByte c.Version) && false && !decide (c.Length < 27))) ∧ (Ob (o3 ((!bif bif !r26isByte c.Reason then true else !r26isByte c.Rejected then true else !r26isByte c.Version) && false && !decide (c.Length < 27))) ∧ (Ob (o2 ((!bif bif !r26isByte c.Reason then true else !r26isByte c.Rejected then true else !r26isByte c.Version) && false)) ∧ (Ob (((!bif bif !r26isByte c.Reason then true else !r26isByte c.Rejected then true else !r26isByte c.Version) && false) = true → decide (c.Length < 27) = false → ((!bif bif !r26isByte c.Reason then true else !r26isByte c.Rejected then true else !r26isByte c.Version) && false && !decide (c.Length < 27)) = true) ∧ (Ob (o2 (!bif bif !r26isByte c.Reason then true else !r26isByte c.Rejected then true else !r26isByte c.Version)) ∧ (Ob ((!bif bif !r26isByte c.Reason then true else !r26isByte c.Rejected then true else !r26isByte c.Version) = true → false = true → ((!bif bif !r26isByte c.Reason then true else !r26isByte c.Rejected then true else !r26isByte c.Version) && false) = true) ∧ (Ob (on (bif bif !r26isByte c.Reason then true else !r26isByte c.Rejected then true else !r26isByte c.Version)) ∧ (cond (bif bif bif !r26isByte c.Reason then true else !r26isByte c.Rejected then true else !r26isByte c.Version then true else bif false then bif decide (c.Length < 27) then true else decide (251 < c.Length) else false) (r26Check.L (5) v) (r26Check.L (0) v))))))))))))))))))))))) (cond (c.Kind == 13) (cond (!(r26Check_nf_1 c)) (r26Check.L (1) v) (Ob (o3 (!!r26isByte c.Reason)) ∧ (Ob (o3 (!!r26isByte c.Reason)) ∧ (Ob (o3 (!!r26isByte c.Reason)) ∧ (Ob (on (!r26isByte c.Reason)) ∧ (Ob (o3 (!bif !r26isByte c.Reason then true else !r26isByte c.Rejected)) ∧ (Ob (o3 (!bif !r26isByte c.Reason then true else !r26isByte c.Rejected)) ∧ (Ob (o3 (!bif !r26isByte c.Reason then true else !r26isByte c.Rejected)) ∧ (Ob (on (bif !r26isByte c.Reason then true else !r26isByte c.Rejected)) ∧ (Ob (o3 (!bif bif !r26isByte c.Reason then true else !r26isByte c.Rejected then true else !r26isByte c.Version)) ∧ (Ob (o3 (!bif bif !r26isByte c.Reason then true else !r26isByte c.Rejected then true else !r26isByte c.Version)) ∧ (Ob (o3 ((!bif bif !r26isByte c.Reason then true else !r26isByte c.Rejected then true else !r26isByte c.Version) && false)) ∧ (Ob (o3 ((!bif bif !r26isByte c.Reason then true else !r26isByte c.Rejected then true else !r26isByte c.Version) && false)) ∧ (Ob (o3 ((!bif bif !r26isByte c.Reason then true else !r26isByte c.Rejected then true else !r26isByte c.Version) && false)) ∧ (Ob (o3 ((!bif bif !r26isByte c.Reason then true else !r26isByte c.Rejected then true else !r26isByte c.Version) && false && !decide (c.Length < 27))) ∧ (Ob (o3 ((!bif bif !r26isByte c.Reason then true else !r26isByte c.Rejected then true else !r26isByte c.Version) && false && !decide (c.Length < 27))) ∧ (Ob (o2 ((!bif bif !r26isByte c.Reason then true else !r26isByte c.Rejected then true else !r26isByte c.Version) && false)) ∧ (Ob (((!bif bif !r26isByte c.Reason then true else !r26isByte c.Rejected then true else !r26isByte c.Version) && false) = true → decide (c.Length < 27) = false → ((!bif bif !r26isByte c.Reason then true else !r26isByte c.Rejected then true else !r26isByte c.Version) && false && !decide (c.Length < 27)) = true) ∧ (Ob (o2 (!bif bif !r26isByte c.Reason then true else !r26isByte c.Rejected then true else !r26isByte c.Version)) ∧ (Ob ((!bif bif !r26isByte c.Reason then true else !r26isByte c.Rejected then true else !r26isByte c.Version) = true → false = true → ((!bif bif !r26isByte c.Reason then true else !r26isByte c.Rejected then true else !r26isByte c.Version) && false) = true) ∧ (Ob (on (bif bif !r26isByte c.Reason then true else !r26isByte c.Rejected then true else !r26isByte c.Version)) ∧ (cond (bif bif bif !r26isByte c.Reason then true else !r26isByte c.Rejected then true else !r26isByte c.Version then true else bif false then bif decide (c.Length < 27) then true else decide (251 < c.Length) else false) (r26Check.L (5) v) (r26Check.L (0) v))))))))))))))))))))))) (cond (c.Kind == 15) (cond (!(r26Check_nf_1 c)) (r26Check.L (1) v) (cond (r17CheckUpdate c.Update != 0) (r26Check.L (r17CheckUpdate c.Update) v) (Ob (o3 (!!r26isByte c.Reason)) ∧ (Ob (o3 (!!r26isByte c.Reason)) ∧ (Ob (o3 (!!r26isByte c.Reason)) ∧ (Ob (on (!r26isByte c.Reason)) ∧ (Ob (o3 (!bif !r26isByte c.Reason then true else !r26isByte c.Rejected)) ∧ (Ob (o3 (!bif !r26isByte c.Reason then true else !r26isByte c.Rejected)) ∧ (Ob (o3 (!bif !r26isByte c.Reason then true else !r26isByte c.Rejected)) ∧ (Ob (on (bif !r26isByte c.Reason then true else !r26isByte c.Rejected)) ∧ (Ob (o3 (!bif bif !r26isByte c.Reason then true else !r26isByte c.Rejected then true else !r26isByte c.Version)) ∧ (Ob (o3 (!bif bif !r26isByte c.Reason then true else !r26isByte c.Rejected then true else !r26isByte c.Version)) ∧ (Ob (o3 ((!bif bif !r26isByte c.Reason then true else !r26isByte c.Rejected then true else !r26isByte c.Version) && false)) ∧ (Ob (o3 ((!bif bif !r26isByte c.Reason then true else !r26isByte c.Rejected then true else !r26isByte c.Version) && false)) ∧ (Ob (o3 ((!bif bif !r26isByte c.Reason then true else !r26isByte c.Rejected then true else !r26isByte c.Version) && false)) ∧ (Ob (o3 ((!bif bif !r26isByte c.Reason then true else !r26isByte c.Rejected then true else !r26isByte c.Version) && false && !decide (c.Length < 27))) ∧ (Ob (o3 ((!bif bif !r26isByte c.Reason then true else !r26isByte c.Rejected then true else !r26isByte c.Version) && false && !decide (c.Length < 27))) ∧ (Ob (o2 ((!bif bif !r26isByte c.Reason then true else !r26isByte c.Rejected then true else !r26isByte c.Version) && false)) ∧ (Ob (((!bif bif !r26isByte c.Reason then true else !r26isByte c.Rejected then true else !r26isByte c.Version) && false) = true → decide (c.Length < 27) = false → ((!bif bif !r26isByte c.Reason then true else !r26isByte c.Rejected then true else !r26isByte c.Version) && false && !decide (c.Length < 27)) = true) ∧ (Ob (o2 (!bif bif !r26isByte c.Reason then true else !r26isByte c.Rejected then true else !r26isByte c.Version)) ∧ (Ob ((!bif bif !r26isByte c.Reason then true else !r26isByte c.Rejected then true else !r26isByte c.Version) = true → false = true → ((!bif bif !r26isByte c.Reason then true else !r26isByte c.Rejected then true else !r26isByte c.Version) && false) = true) ∧ (Ob (on (bif bif !r26isByte c.Reason then true else !r26isByte c.Rejected then true else !r26isByte c.Version)) ∧ (cond (bif bif bif !r26isByte c.Reason then true else !r26isByte c.Rejected then true else !r26isByte c.Version then true else bif false then bif decide (c.Length < 27) then true else decide (251 < c.Length) else false) (r26Check.L (5) v) (r26Check.L (0) v)))))))))))))))))))))))) (cond (c.Kind == 20) (cond (!(r26Check_nf_1 c)) (r26Check.L (1) v) (Ob (o3 (!!r26isByte c.Reason)) ∧ (Ob (o3 (!!r26isByte c.Reason)) ∧ (Ob (o3 (!!r26isByte c.Reason)) ∧ (Ob (on (!r26isByte c.Reason)) ∧ (Ob (o3 (!bif !r26isByte c.Reason then true else !r26isByte c.Rejected)) ∧ (Ob (o3 (!bif !r26isByte c.Reason then true else !r26isByte c.Rejected)) ∧ (Ob (o3 (!bif !r26isByte c.Reason then true else !r26isByte c.Rejected)) ∧ (Ob (on (bif !r26isByte c.Reason then true else !r26isByte c.Rejected)) ∧ (Ob (o3 (!bif bif !r26isByte c.Reason then true else !r26isByte c.Rejected then true else !r26isByte c.Version)) ∧ (Ob (o3 (!bif bif !r26isByte c.Reason then true else !r26isByte c.Rejected then true else !r26isByte c.Version)) ∧ (Ob (o3 ((!bif bif !r26isByte c.Reason then true else !r26isByte c.Rejected then true else !r26isByte c.Version) && true)) ∧ (Ob (o3 ((!bif bif !r26isByte c.Reason then true else !r26isByte c.Rejected then true else !r26isByte c.Version) && true)) ∧ (Ob (o3 ((!bif bif !r26isByte c.Reason then true else !r26isByte c.Rejected then true else !r26isByte c.Version) && true)) ∧ (Ob (o3 ((!bif bif !r26isByte c.Reason then true else !r26isByte c.Rejected then true else !r26isByte c.Version) && true && !decide (c.Length < 27))) ∧ (Ob (o3 ((!bif bif !r26isByte c.Reason then true else !r26isByte c.Rejected then true else !r26isByte c.Version) && true && !decide (c.Length < 27))) ∧ (Ob (o2 ((!bif bif !r26isByte c.Reason then true else !r26isByte c.Rejected then true else !r26isByte c.Version) && true)) ∧ (Ob (((!bif bif !r26isByte c.Reason then true else !r26isByte c.Rejected then true else !r26isByte c.Version) && true) = true → decide (c.Length < 27) = false → ((!bif bif !r26isByte c.Reason then true else !r26isByte c.Rejected then true else !r26isByte c.Version) && true && !decide (c.Length < 27)) = true) ∧ (Ob (o2 (!bif bif !r26isByte c.Reason then true else !r26isByte c.Rejected then true else !r26isByte c.Version)) ∧ (Ob ((!bif bif !r26isByte c.Reason then true else !r26isByte c.Rejected then true else !r26isByte c.Version) = true → true = true → ((!bif bif !r26isByte c.Reason then true else !r26isByte c.Rejected then true else !r26isByte c.Version) && true) = true) ∧ (Ob (on (bif bif !r26isByte c.Reason then true else !r26isByte c.Rejected then true else !r26isByte c.Version)) ∧ (cond (bif bif bif !r26isByte c.Reason then true else !r26isByte c.Rejected then true else !r26isByte c.Version then true else bif true then bif decide (c.Length < 27) then true else decide (251 < c.Length) else false) (r26Check.L (5) v) (r26Check.L (0) v))))))))))))))))))))))) (cond (c.Kind == 21) (cond (!(r26Check_nf_1 c)) (r26Check.L (1) v) (Ob (o3 (!!r26isByte c.Reason)) ∧ (Ob (o3 (!!r26isByte c.Reason)) ∧ (Ob (o3 (!!r26isByte c.Reason)) ∧ (Ob (on (!r26isByte c.Reason)) ∧ (Ob (o3 (!bif !r26isByte c.Reason then true else !r26isByte c.Rejected)) ∧ (Ob (o3 (!bif !r26isByte c.Reason then true else !r26isByte c.Rejected)) ∧ (Ob (o3 (!bif !r26isByte c.Reason then true else !r26isByte c.Rejected)) ∧ (Ob (on (bif !r26isByte c.Reason then true else !r26isByte c.Rejected)) ∧ (Ob (o3 (!bif bif !r26isByte c.Reason then true else !r26isByte c.Rejected then true else !r26isByte c.Version)) ∧ (Ob (o3 (!bif bif !r26isByte c.Reason then true else !r26isByte c.Rejected then true else !r26isByte c.Version)) ∧ (Ob (o3 ((!bif bif !r26isByte c.Reason then true else !r26isByte c.Rejected then true else !r26isByte c.Version) && true)) ∧ (Ob (o3 ((!bif bif !r26isByte c.Reason then true else !r26isByte c.Rejected then true else !r26isByte c.Version) && true)) ∧ (Ob (o3 ((!bif bif !r26isByte c.Reason then true else !r26isByte c.Rejected then true else !r26isByte c.Version) && true)) ∧ (Ob (o3 ((!bif bif !r26isByte c.Reason then true else !r26isByte c.Rejected then true else !r26isByte c.Version) && true && !decide (c.Length < 27))) ∧ (Ob (o3 ((!bif bif !r26isByte c.Reason then true else !r26isByte c.Rejected then true else !r26isByte c.Version) && true && !decide (c.Length < 27))) ∧ (Ob (o2 ((!bif bif !r26isByte c.Reason then true else !r26isByte c.Rejected then true else !r26isByte c.Version) && true)) ∧ (Ob (((!bif bif !r26isByte c.Reason then true else !r26isByte c.Rejected then true else !r26isByte c.Version) && true) = true → decide (c.Length < 27) = false → ((!bif bif !r26isByte c.Reason then true else !r26isByte c.Rejected then true else !r26isByte c.Version) && true && !decide (c.Length < 27)) = true) ∧ (Ob (o2 (!bif bif !r26isByte c.Reason then true else !r26isByte c.Rejected then true else !r26isByte c.Version)) ∧ (Ob ((!bif bif !r26isByte c.Reason then true else !r26isByte c.Rejected then true else !r26isByte c.Version) = true → true = true → ((!bif bif !r26isByte c.Reason then true else !r26isByte c.Rejected then true else !r26isByte c.Version) && true) = true) ∧ (Ob (on (bif bif !r26isByte c.Reason then true else !r26isByte c.Rejected then true else !r26isByte c.Version)) ∧ (cond (bif bif bif !r26isByte c.Reason then true else !r26isByte c.Rejected then true else !r26isByte c.Version then true else bif true then bif decide (c.Length < 27) then true else decide (251 < c.Length) else false) (r26Check.L (5) v) (r26Check.L (0) v))))))))))))))))))))))) (r26Check.L (12) v)))))))))))))))))
theorem r26Check.nf_ok (c : Control) (v : Int) : evFun (mkCx Try.prog S tab_r26TakeUpdate 0) 4 15 [Control.av c] [] (fun r' H' => Gives r' H' (r26Check.res v) (r26Check.news v)) = r26Check.nf c v := by kernel_rfl
theorem r26Check.key (c : Control) (v : Int) (hv : v = r26Check c) : r26Check.nf c v := by
  unfold r26Check at hv
  unfold r26Check.nf
  revert hv; refine by_cond2 (fun hb hv => ?_) (fun hb hv => ?_)
  revert hv; refine by_cond2 (fun hb hv => ?_) (fun hb hv => ?_)
  subst hv; exact ⟨rfl, rfl⟩
  revert hv; refine by_cond2 (fun hb hv => ?_) (fun hb hv => ?_)
  subst hv; exact ⟨rfl, rfl⟩
  refine ⟨⟨o3_ok _⟩, ?_⟩
  refine ⟨⟨o3_ok _⟩, ?_⟩
  refine ⟨⟨o3_ok _⟩, ?_⟩
  refine ⟨⟨on_ok _⟩, ?_⟩
  refine ⟨⟨o3_ok _⟩, ?_⟩
  refine ⟨⟨o3_ok _⟩, ?_⟩
  refine ⟨⟨o3_ok _⟩, ?_⟩
  refine ⟨⟨on_ok _⟩, ?_⟩
  refine ⟨⟨o3_ok _⟩, ?_⟩
  refine ⟨⟨o3_ok _⟩, ?_⟩
  refine ⟨⟨o3_ok _⟩, ?_⟩
  refine ⟨⟨o3_ok _⟩, ?_⟩
  refine ⟨⟨o3_ok _⟩, ?_⟩
  refine ⟨⟨o3_ok _⟩, ?_⟩
  refine ⟨⟨o3_ok _⟩, ?_⟩
  refine ⟨⟨o2_ok _⟩, ?_⟩
  refine ⟨⟨?_⟩, ?_⟩; rotate_left
  refine ⟨⟨o2_ok _⟩, ?_⟩
  refine ⟨⟨?_⟩, ?_⟩; rotate_left
  refine ⟨⟨on_ok _⟩, ?_⟩
  revert hv; refine by_cond2 (fun hb hv => ?_) (fun hb hv => ?_)
  subst hv; exact ⟨rfl, rfl⟩
  subst hv; exact ⟨rfl, rfl⟩
  revert hv; refine by_cond2 (fun hb hv => ?_) (fun hb hv => ?_)
  revert hv; refine by_cond2 (fun hb hv => ?_) (fun hb hv => ?_)
  subst hv; exact ⟨rfl, rfl⟩
  revert hv; refine by_cond2 (fun hb hv => ?_) (fun hb hv => ?_)
  subst hv; exact ⟨rfl, rfl⟩
  refine ⟨⟨o3_ok _⟩, ?_⟩
  refine ⟨⟨o3_ok _⟩, ?_⟩
  refine ⟨⟨o3_ok _⟩, ?_⟩
  refine ⟨⟨on_ok _⟩, ?_⟩
  refine ⟨⟨o3_ok _⟩, ?_⟩
  refine ⟨⟨o3_ok _⟩, ?_⟩
  refine ⟨⟨o3_ok _⟩, ?_⟩
  refine ⟨⟨on_ok _⟩, ?_⟩
  refine ⟨⟨o3_ok _⟩, ?_⟩
  refine ⟨⟨o3_ok _⟩, ?_⟩
  refine ⟨⟨o3_ok _⟩, ?_⟩
  refine ⟨⟨o3_ok _⟩, ?_⟩
  refine ⟨⟨o3_ok _⟩, ?_⟩
  refine ⟨⟨o3_ok _⟩, ?_⟩
  refine ⟨⟨o3_ok _⟩, ?_⟩
  refine ⟨⟨o2_ok _⟩, ?_⟩
  refine ⟨⟨?_⟩, ?_⟩; rotate_left
  refine ⟨⟨o2_ok _⟩, ?_⟩
  refine ⟨⟨?_⟩, ?_⟩; rotate_left
  refine ⟨⟨on_ok _⟩, ?_⟩
  revert hv; refine by_cond2 (fun hb hv => ?_) (fun hb hv => ?_)
  subst hv; exact ⟨rfl, rfl⟩
  subst hv; exact ⟨rfl, rfl⟩
  revert hv; refine by_cond2 (fun hb hv => ?_) (fun hb hv => ?_)
  revert hv; refine by_cond2 (fun hb hv => ?_) (fun hb hv => ?_)
  subst hv; exact ⟨rfl, rfl⟩
  refine ⟨⟨o3_ok _⟩, ?_⟩
  refine ⟨⟨o3_ok _⟩, ?_⟩
  refine ⟨⟨o3_ok _⟩, ?_⟩
  refine ⟨⟨on_ok _⟩, ?_⟩
  refine ⟨⟨o3_ok _⟩, ?_⟩
  refine ⟨⟨o3_ok _⟩, ?_⟩
  refine ⟨⟨o3_ok _⟩, ?_⟩
  refine ⟨⟨on_ok _⟩, ?_⟩
  refine ⟨⟨o3_ok _⟩, ?_⟩
  refine ⟨⟨o3_ok _⟩, ?_⟩
  refine ⟨⟨o3_ok _⟩, ?_⟩
  refine ⟨⟨o3_ok _⟩, ?_⟩
  refine ⟨⟨o3_ok _⟩, ?_⟩
  refine ⟨⟨o3_ok _⟩, ?_⟩
  refine ⟨⟨o3_ok _⟩, ?_⟩
  refine ⟨⟨o2_ok _⟩, ?_⟩
  refine ⟨⟨?_⟩, ?_⟩; rotate_left
  refine ⟨⟨o2_ok _⟩, ?_⟩
  refine ⟨⟨?_⟩, ?_⟩; rotate_left
  refine ⟨⟨on_ok _⟩, ?_⟩
  revert hv; refine by_cond2 (fun hb hv => ?_) (fun hb hv => ?_)
  subst hv; exact ⟨rfl, rfl⟩
  subst hv; exact ⟨rfl, rfl⟩
  revert hv; refine by_cond2 (fun hb hv => ?_) (fun hb hv => ?_)
  revert hv; refine by_cond2 (fun hb hv => ?_) (fun hb hv => ?_)
  subst hv; exact ⟨rfl, rfl⟩
  refine ⟨⟨o3_ok _⟩, ?_⟩
  refine ⟨⟨o3_ok _⟩, ?_⟩
  refine ⟨⟨o3_ok _⟩, ?_⟩
  refine ⟨⟨on_ok _⟩, ?_⟩
  refine ⟨⟨o3_ok _⟩, ?_⟩
  refine ⟨⟨o3_ok _⟩, ?_⟩
  refine ⟨⟨o3_ok _⟩, ?_⟩
  refine ⟨⟨on_ok _⟩, ?_⟩
  refine ⟨⟨o3_ok _⟩, ?_⟩
  refine ⟨⟨o3_ok _⟩, ?_⟩
  refine ⟨⟨o3_ok _⟩, ?_⟩
  refine ⟨⟨o3_ok _⟩, ?_⟩
  refine ⟨⟨o3_ok _⟩, ?_⟩
  refine ⟨⟨o3_ok _⟩, ?_⟩
  refine ⟨⟨o3_ok _⟩, ?_⟩
  refine ⟨⟨o2_ok _⟩, ?_⟩
  refine ⟨⟨?_⟩, ?_⟩; rotate_left
  refine ⟨⟨o2_ok _⟩, ?_⟩
  refine ⟨⟨?_⟩, ?_⟩; rotate_left
  refine ⟨⟨on_ok _⟩, ?_⟩
  revert hv; refine by_cond2 (fun hb hv => ?_) (fun hb hv => ?_)
  subst hv; exact ⟨rfl, rfl⟩
  subst hv; exact ⟨rfl, rfl⟩
  revert hv; refine by_cond2 (fun hb hv => ?_) (fun hb hv => ?_)
  revert hv; refine by_cond2 (fun hb hv => ?_) (fun hb hv => ?_)
  subst hv; exact ⟨rfl, rfl⟩
  refine ⟨⟨o3_ok _⟩, ?_⟩
  refine ⟨⟨o3_ok _⟩, ?_⟩
  refine ⟨⟨o3_ok _⟩, ?_⟩
  refine ⟨⟨on_ok _⟩, ?_⟩
  refine ⟨⟨o3_ok _⟩, ?_⟩
  refine ⟨⟨o3_ok _⟩, ?_⟩
  refine ⟨⟨o3_ok _⟩, ?_⟩
  refine ⟨⟨on_ok _⟩, ?_⟩
  refine ⟨⟨o3_ok _⟩, ?_⟩
  refine ⟨⟨o3_ok _⟩, ?_⟩
  refine ⟨⟨o3_ok _⟩, ?_⟩
  refine ⟨⟨o3_ok _⟩, ?_⟩
  refine ⟨⟨o3_ok _⟩, ?_⟩
  refine ⟨⟨o3_ok _⟩, ?_⟩
  refine ⟨⟨o3_ok _⟩, ?_⟩
  refine ⟨⟨o2_ok _⟩, ?_⟩
  refine ⟨⟨?_⟩, ?_⟩; rotate_left
  refine ⟨⟨o2_ok _⟩, ?_⟩
  refine ⟨⟨?_⟩, ?_⟩; rotate_left
  refine ⟨⟨on_ok _⟩, ?_⟩
  revert hv; refine by_cond2 (fun hb hv => ?_) (fun hb hv => ?_)
  subst hv; exact ⟨rfl, rfl⟩
  subst hv; exact ⟨rfl, rfl⟩
  revert hv; refine by_cond2 (fun hb hv => ?_) (fun hb hv => ?_)
  revert hv; refine by_cond2 (fun hb hv => ?_) (fun hb hv => ?_)
  subst hv; exact ⟨rfl, rfl⟩
  refine ⟨⟨o3_ok _⟩, ?_⟩
  refine ⟨⟨o3_ok _⟩, ?_⟩
  refine ⟨⟨o3_ok _⟩, ?_⟩
  refine ⟨⟨on_ok _⟩, ?_⟩
  refine ⟨⟨o3_ok _⟩, ?_⟩
  refine ⟨⟨o3_ok _⟩, ?_⟩
  refine ⟨⟨o3_ok _⟩, ?_⟩
  refine ⟨⟨on_ok _⟩, ?_⟩
  refine ⟨⟨o3_ok _⟩, ?_⟩
  refine ⟨⟨o3_ok _⟩, ?_⟩
  refine ⟨⟨o3_ok _⟩, ?_⟩
  refine ⟨⟨o3_ok _⟩, ?_⟩
  refine ⟨⟨o3_ok _⟩, ?_⟩
  refine ⟨⟨o3_ok _⟩, ?_⟩
  refine ⟨⟨o3_ok _⟩, ?_⟩
  refine ⟨⟨o2_ok _⟩, ?_⟩
  refine ⟨⟨?_⟩, ?_⟩; rotate_left
  refine ⟨⟨o2_ok _⟩, ?_⟩
  refine ⟨⟨?_⟩, ?_⟩; rotate_left
  refine ⟨⟨on_ok _⟩, ?_⟩
  revert hv; refine by_cond2 (fun hb hv => ?_) (fun hb hv => ?_)
  subst hv; exact ⟨rfl, rfl⟩
  subst hv; exact ⟨rfl, rfl⟩
  revert hv; refine by_cond2 (fun hb hv => ?_) (fun hb hv => ?_)
  revert hv; refine by_cond2 (fun hb hv => ?_) (fun hb hv => ?_)
  subst hv; exact ⟨rfl, rfl⟩
  refine ⟨⟨o3_ok _⟩, ?_⟩
  refine ⟨⟨o3_ok _⟩, ?_⟩
  refine ⟨⟨o3_ok _⟩, ?_⟩
  refine ⟨⟨on_ok _⟩, ?_⟩
  refine ⟨⟨o3_ok _⟩, ?_⟩
  refine ⟨⟨o3_ok _⟩, ?_⟩
  refine ⟨⟨o3_ok _⟩, ?_⟩
  refine ⟨⟨on_ok _⟩, ?_⟩
  refine ⟨⟨o3_ok _⟩, ?_⟩
  refine ⟨⟨o3_ok _⟩, ?_⟩
  refine ⟨⟨o3_ok _⟩, ?_⟩
  refine ⟨⟨o3_ok _⟩, ?_⟩
  refine ⟨⟨o3_ok _⟩, ?_⟩
  refine ⟨⟨o3_ok _⟩, ?_⟩
  refine ⟨⟨o3_ok _⟩, ?_⟩
  refine ⟨⟨o2_ok _⟩, ?_⟩
  refine ⟨⟨?_⟩, ?_⟩; rotate_left
  refine ⟨⟨o2_ok _⟩, ?_⟩
  refine ⟨⟨?_⟩, ?_⟩; rotate_left
  refine ⟨⟨on_ok _⟩, ?_⟩
  revert hv; refine by_cond2 (fun hb hv => ?_) (fun hb hv => ?_)
  subst hv; exact ⟨rfl, rfl⟩
  subst hv; exact ⟨rfl, rfl⟩
  revert hv; refine by_cond2 (fun hb hv => ?_) (fun hb hv => ?_)
  revert hv; refine by_cond2 (fun hb hv => ?_) (fun hb hv => ?_)
  subst hv; exact ⟨rfl, rfl⟩
  refine ⟨⟨o3_ok _⟩, ?_⟩
  refine ⟨⟨o3_ok _⟩, ?_⟩
  refine ⟨⟨o3_ok _⟩, ?_⟩
  refine ⟨⟨on_ok _⟩, ?_⟩
  refine ⟨⟨o3_ok _⟩, ?_⟩
  refine ⟨⟨o3_ok _⟩, ?_⟩
  refine ⟨⟨o3_ok _⟩, ?_⟩
  refine ⟨⟨on_ok _⟩, ?_⟩
  refine ⟨⟨o3_ok _⟩, ?_⟩
  refine ⟨⟨o3_ok _⟩, ?_⟩
  refine ⟨⟨o3_ok _⟩, ?_⟩
  refine ⟨⟨o3_ok _⟩, ?_⟩
  refine ⟨⟨o3_ok _⟩, ?_⟩
  refine ⟨⟨o3_ok _⟩, ?_⟩
  refine ⟨⟨o3_ok _⟩, ?_⟩
  refine ⟨⟨o2_ok _⟩, ?_⟩
  refine ⟨⟨?_⟩, ?_⟩; rotate_left
  refine ⟨⟨o2_ok _⟩, ?_⟩
  refine ⟨⟨?_⟩, ?_⟩; rotate_left
  refine ⟨⟨on_ok _⟩, ?_⟩
  revert hv; refine by_cond2 (fun hb hv => ?_) (fun hb hv => ?_)
  subst hv; exact ⟨rfl, rfl⟩
  subst hv; exact ⟨rfl, rfl⟩
  revert hv; refine by_cond2 (fun hb hv => ?_) (fun hb hv => ?_)
  revert hv; refine by_cond2 (fun hb hv => ?_) (fun hb hv => ?_)
  subst hv; exact ⟨rfl, rfl⟩
  refine ⟨⟨o3_ok _⟩, ?_⟩
  refine ⟨⟨o3_ok _⟩, ?_⟩
  refine ⟨⟨o3_ok _⟩, ?_⟩
  refine ⟨⟨on_ok _⟩, ?_⟩
  refine ⟨⟨o3_ok _⟩, ?_⟩
  refine ⟨⟨o3_ok _⟩, ?_⟩
  refine ⟨⟨o3_ok _⟩, ?_⟩
  refine ⟨⟨on_ok _⟩, ?_⟩
  refine ⟨⟨o3_ok _⟩, ?_⟩
  refine ⟨⟨o3_ok _⟩, ?_⟩
  refine ⟨⟨o3_ok _⟩, ?_⟩
  refine ⟨⟨o3_ok _⟩, ?_⟩
  refine ⟨⟨o3_ok _⟩, ?_⟩
  refine ⟨⟨o3_ok _⟩, ?_⟩
  refine ⟨⟨o3_ok _⟩, ?_⟩
  refine ⟨⟨o2_ok _⟩, ?_⟩
  refine ⟨⟨?_⟩, ?_⟩; rotate_left
  refine ⟨⟨o2_ok _⟩, ?_⟩
  refine ⟨⟨?_⟩, ?_⟩; rotate_left
  refine ⟨⟨on_ok _⟩, ?_⟩
  revert hv; refine by_cond2 (fun hb hv => ?_) (fun hb hv => ?_)
  subst hv; exact ⟨rfl, rfl⟩
  subst hv; exact ⟨rfl, rfl⟩
  revert hv; refine by_cond2 (fun hb hv => ?_) (fun hb hv => ?_)
  revert hv; refine by_cond2 (fun hb hv => ?_) (fun hb hv => ?_)
  subst hv; exact ⟨rfl, rfl⟩
  refine ⟨⟨o3_ok _⟩, ?_⟩
  refine ⟨⟨o3_ok _⟩, ?_⟩
  refine ⟨⟨o3_ok _⟩, ?_⟩
  refine ⟨⟨on_ok _⟩, ?_⟩
  refine ⟨⟨o3_ok _⟩, ?_⟩
  refine ⟨⟨o3_ok _⟩, ?_⟩
  refine ⟨⟨o3_ok _⟩, ?_⟩
  refine ⟨⟨on_ok _⟩, ?_⟩
  refine ⟨⟨o3_ok _⟩, ?_⟩
  refine ⟨⟨o3_ok _⟩, ?_⟩
  refine ⟨⟨o3_ok _⟩, ?_⟩
  refine ⟨⟨o3_ok _⟩, ?_⟩
  refine ⟨⟨o3_ok _⟩, ?_⟩
  refine ⟨⟨o3_ok _⟩, ?_⟩
  refine ⟨⟨o3_ok _⟩, ?_⟩
  refine ⟨⟨o2_ok _⟩, ?_⟩
  refine ⟨⟨?_⟩, ?_⟩; rotate_left
  refine ⟨⟨o2_ok _⟩, ?_⟩
  refine ⟨⟨?_⟩, ?_⟩; rotate_left
  refine ⟨⟨on_ok _⟩, ?_⟩
  revert hv; refine by_cond2 (fun hb hv => ?_) (fun hb hv => ?_)
  subst hv; exact ⟨rfl, rfl⟩
  subst hv; exact ⟨rfl, rfl⟩
  revert hv; refine by_cond2 (fun hb hv => ?_) (fun hb hv => ?_)
  revert hv; refine by_cond2 (fun hb hv => ?_) (fun hb hv => ?_)
  subst hv; exact ⟨rfl, rfl⟩
  refine ⟨⟨o3_ok _⟩, ?_⟩
  refine ⟨⟨o3_ok _⟩, ?_⟩
  refine ⟨⟨o3_ok _⟩, ?_⟩
  refine ⟨⟨on_ok _⟩, ?_⟩
  refine ⟨⟨o3_ok _⟩, ?_⟩
  refine ⟨⟨o3_ok _⟩, ?_⟩
  refine ⟨⟨o3_ok _⟩, ?_⟩
  refine ⟨⟨on_ok _⟩, ?_⟩
  refine ⟨⟨o3_ok _⟩, ?_⟩
  refine ⟨⟨o3_ok _⟩, ?_⟩
  refine ⟨⟨o3_ok _⟩, ?_⟩
  refine ⟨⟨o3_ok _⟩, ?_⟩
  refine ⟨⟨o3_ok _⟩, ?_⟩
  refine ⟨⟨o3_ok _⟩, ?_⟩
  refine ⟨⟨o3_ok _⟩, ?_⟩
  refine ⟨⟨o2_ok _⟩, ?_⟩
  refine ⟨⟨?_⟩, ?_⟩; rotate_left
  refine ⟨⟨o2_ok _⟩, ?_⟩
  refine ⟨⟨?_⟩, ?_⟩; rotate_left
  refine ⟨⟨on_ok _⟩, ?_⟩
  revert hv; refine by_cond2 (fun hb hv => ?_) (fun hb hv => ?_)
  subst hv; exact ⟨rfl, rfl⟩
  subst hv; exact ⟨rfl, rfl⟩
  revert hv; refine by_cond2 (fun hb hv => ?_) (fun hb hv => ?_)
  revert hv; refine by_cond2 (fun hb hv => ?_) (fun hb hv => ?_)
  subst hv; exact ⟨rfl, rfl⟩
  refine ⟨⟨o3_ok _⟩, ?_⟩
  refine ⟨⟨o3_ok _⟩, ?_⟩
  refine ⟨⟨o3_ok _⟩, ?_⟩
  refine ⟨⟨on_ok _⟩, ?_⟩
  refine ⟨⟨o3_ok _⟩, ?_⟩
  refine ⟨⟨o3_ok _⟩, ?_⟩
  refine ⟨⟨o3_ok _⟩, ?_⟩
  refine ⟨⟨on_ok _⟩, ?_⟩
  refine ⟨⟨o3_ok _⟩, ?_⟩
  refine ⟨⟨o3_ok _⟩, ?_⟩
  refine ⟨⟨o3_ok _⟩, ?_⟩
  refine ⟨⟨o3_ok _⟩, ?_⟩
  refine ⟨⟨o3_ok _⟩, ?_⟩
  refine ⟨⟨o3_ok _⟩, ?_⟩
  refine ⟨⟨o3_ok _⟩, ?_⟩
  refine ⟨⟨o2_ok _⟩, ?_⟩
  refine ⟨⟨?_⟩, ?_⟩; rotate_left
  refine ⟨⟨o2_ok _⟩, ?_⟩
  refine ⟨⟨?_⟩, ?_⟩; rotate_left
  refine ⟨⟨on_ok _⟩, ?_⟩
  revert hv; refine by_cond2 (fun hb hv => ?_) (fun hb hv => ?_)
  subst hv; exact ⟨rfl, rfl⟩
  subst hv; exact ⟨rfl, rfl⟩
  revert hv; refine by_cond2 (fun hb hv => ?_) (fun hb hv => ?_)
  revert hv; refine by_cond2 (fun hb hv => ?_) (fun hb hv => ?_)
  subst hv; exact ⟨rfl, rfl⟩
  refine ⟨⟨o3_ok _⟩, ?_⟩
  refine ⟨⟨o3_ok _⟩, ?_⟩
  refine ⟨⟨o3_ok _⟩, ?_⟩
  refine ⟨⟨on_ok _⟩, ?_⟩
  refine ⟨⟨o3_ok _⟩, ?_⟩
  refine ⟨⟨o3_ok _⟩, ?_⟩
  refine ⟨⟨o3_ok _⟩, ?_⟩
  refine ⟨⟨on_ok _⟩, ?_⟩
  refine ⟨⟨o3_ok _⟩, ?_⟩
  refine ⟨⟨o3_ok _⟩, ?_⟩
  refine ⟨⟨o3_ok _⟩, ?_⟩
  refine ⟨⟨o3_ok _⟩, ?_⟩
  refine ⟨⟨o3_ok _⟩, ?_⟩
  refine ⟨⟨o3_ok _⟩, ?_⟩
  refine ⟨⟨o3_ok _⟩, ?_⟩
  refine ⟨⟨o2_ok _⟩, ?_⟩
  refine ⟨⟨?_⟩, ?_⟩; rotate_left
  refine ⟨⟨o2_ok _⟩, ?_⟩
  refine ⟨⟨?_⟩, ?_⟩; rotate_left
  refine ⟨⟨on_ok _⟩, ?_⟩
  revert hv; refine by_cond2 (fun hb hv => ?_) (fun hb hv => ?_)
  subst hv; exact ⟨rfl, rfl⟩
  subst hv; exact ⟨rfl, rfl⟩
  revert hv; refine by_cond2 (fun hb hv => ?_) (fun hb hv => ?_)
  revert hv; refine by_cond2 (fun hb hv => ?_) (fun hb hv => ?_)
  subst hv; exact ⟨rfl, rfl⟩
  refine ⟨⟨o3_ok _⟩, ?_⟩
  refine ⟨⟨o3_ok _⟩, ?_⟩
  refine ⟨⟨o3_ok _⟩, ?_⟩
  refine ⟨⟨on_ok _⟩, ?_⟩
  refine ⟨⟨o3_ok _⟩, ?_⟩
  refine ⟨⟨o3_ok _⟩, ?_⟩
  refine ⟨⟨o3_ok _⟩, ?_⟩
  refine ⟨⟨on_ok _⟩, ?_⟩
  refine ⟨⟨o3_ok _⟩, ?_⟩
  refine ⟨⟨o3_ok _⟩, ?_⟩
  refine ⟨⟨o3_ok _⟩, ?_⟩
  refine ⟨⟨o3_ok _⟩, ?_⟩
  refine ⟨⟨o3_ok _⟩, ?_⟩
  refine ⟨⟨o3_ok _⟩, ?_⟩
  refine ⟨⟨o3_ok _⟩, ?_⟩
  refine ⟨⟨o2_ok _⟩, ?_⟩
  refine ⟨⟨?_⟩, ?_⟩; rotate_left
  refine ⟨⟨o2_ok _⟩, ?_⟩
  refine ⟨⟨?_⟩, ?_⟩; rotate_left
  refine ⟨⟨on_ok _⟩, ?_⟩
  revert hv; refine by_cond2 (fun hb hv => ?_) (fun hb hv => ?_)
  subst hv; exact ⟨rfl, rfl⟩
  subst hv; exact ⟨rfl, rfl⟩
  revert hv; refine by_cond2 (fun hb hv => ?_) (fun hb hv => ?_)
  revert hv; refine by_cond2 (fun hb hv => ?_) (fun hb hv => ?_)
  subst hv; exact ⟨rfl, rfl⟩
  revert hv; refine by_cond2 (fun hb hv => ?_) (fun hb hv => ?_)
  subst hv; exact ⟨rfl, rfl⟩
  refine ⟨⟨o3_ok _⟩, ?_⟩
  refine ⟨⟨o3_ok _⟩, ?_⟩
  refine ⟨⟨o3_ok _⟩, ?_⟩
  refine ⟨⟨on_ok _⟩, ?_⟩
  refine ⟨⟨o3_ok _⟩, ?_⟩
  refine ⟨⟨o3_ok _⟩, ?_⟩
  refine ⟨⟨o3_ok _⟩, ?_⟩
  refine ⟨⟨on_ok _⟩, ?_⟩
  refine ⟨⟨o3_ok _⟩, ?_⟩
  refine ⟨⟨o3_ok _⟩, ?_⟩
  refine ⟨⟨o3_ok _⟩, ?_⟩
  refine ⟨⟨o3_ok _⟩, ?_⟩
  refine ⟨⟨o3_ok _⟩, ?_⟩
  refine ⟨⟨o3_ok _⟩, ?_⟩
  refine ⟨⟨o3_ok _⟩, ?_⟩
  refine ⟨⟨o2_ok _⟩, ?_⟩
  refine ⟨⟨?_⟩, ?_⟩; rotate_left
  refine ⟨⟨o2_ok _⟩, ?_⟩
  refine ⟨⟨?_⟩, ?_⟩; rotate_left
  refine ⟨⟨on_ok _⟩, ?_⟩
  revert hv; refine by_cond2 (fun hb hv => ?_) (fun hb hv => ?_)
  subst hv; exact ⟨rfl, rfl⟩
  subst hv; exact ⟨rfl, rfl⟩
  revert hv; refine by_cond2 (fun hb hv => ?_) (fun hb hv => ?_)
  revert hv; refine by_cond2 (fun hb hv => ?_) (fun hb hv => ?_)
  subst hv; exact ⟨rfl, rfl⟩
  refine ⟨⟨o3_ok _⟩, ?_⟩
  refine ⟨⟨o3_ok _⟩, ?_⟩
  refine ⟨⟨o3_ok _⟩, ?_⟩
  refine ⟨⟨on_ok _⟩, ?_⟩
  refine ⟨⟨o3_ok _⟩, ?_⟩
  refine ⟨⟨o3_ok _⟩, ?_⟩
  refine ⟨⟨o3_ok _⟩, ?_⟩
  refine ⟨⟨on_ok _⟩, ?_⟩
  refine ⟨⟨o3_ok _⟩, ?_⟩
  refine ⟨⟨o3_ok _⟩, ?_⟩
  refine ⟨⟨o3_ok _⟩, ?_⟩
  refine ⟨⟨o3_ok _⟩, ?_⟩
  refine ⟨⟨o3_ok _⟩, ?_⟩
  refine ⟨⟨o3_ok _⟩, ?_⟩
  refine ⟨⟨o3_ok _⟩, ?_⟩
  refine ⟨⟨o2_ok _⟩, ?_⟩
  refine ⟨⟨?_⟩, ?_⟩; rotate_left
  refine ⟨⟨o2_ok _⟩, ?_⟩
  refine ⟨⟨?_⟩, ?_⟩; rotate_left
  refine ⟨⟨on_ok _⟩, ?_⟩
  revert hv; refine by_cond2 (fun hb hv => ?_) (fun hb hv => ?_)
  subst hv; exact ⟨rfl, rfl⟩
  subst hv; exact ⟨rfl, rfl⟩
  revert hv; refine by_cond2 (fun hb hv => ?_) (fun hb hv => ?_)
  revert hv; refine by_cond2 (fun hb hv => ?_) (fun hb hv => ?_)
  subst hv; exact ⟨rfl, rfl⟩
  refine ⟨⟨o3_ok _⟩, ?_⟩
  refine ⟨⟨o3_ok _⟩, ?_⟩
  refine ⟨⟨o3_ok _⟩, ?_⟩
  refine ⟨⟨on_ok _⟩, ?_⟩
  refine ⟨⟨o3_ok _⟩, ?_⟩
  refine ⟨⟨o3_ok _⟩, ?_⟩
  refine ⟨⟨o3_ok _⟩, ?_⟩
  refine ⟨⟨on_ok _⟩, ?_⟩
  refine ⟨⟨o3_ok _⟩, ?_⟩
  refine ⟨⟨o3_ok _⟩, ?_⟩
  refine ⟨⟨o3_ok _⟩, ?_⟩
  refine ⟨⟨o3_ok _⟩, ?_⟩
  refine ⟨⟨o3_ok _⟩, ?_⟩
  refine ⟨⟨o3_ok _⟩, ?_⟩
  refine ⟨⟨o3_ok _⟩, ?_⟩
  refine ⟨⟨o2_ok _⟩, ?_⟩
  refine ⟨⟨?_⟩, ?_⟩; rotate_left
  refine ⟨⟨o2_ok _⟩, ?_⟩
  refine ⟨⟨?_⟩, ?_⟩; rotate_left
  refine ⟨⟨on_ok _⟩, ?_⟩
  revert hv; refine by_cond2 (fun hb hv => ?_) (fun hb hv => ?_)
  subst hv; exact ⟨rfl, rfl⟩
  subst hv; exact ⟨rfl, rfl⟩
  subst hv; exact ⟨rfl, rfl⟩
  all_goals ((try clear hv); (try clear q1 q2); (try clear hk); (first | omega | (simp only [cUpd, List.length_append, List.length_cons, List.length_nil] at *; omega) | (have e := eq_of_beq hb; rw [e] at hp; simp only [rs0, rs1, rs2, rs3, rs4, rs5, rs6, rs7, rs8, rs9, rs12, rs13, rs15, rs18, rs19, rs20, rs21] at hp; (repeat rw [wi64 _ (by omega) (by omega)]); omega) | (simp only [gUpdate, gMap, gParams, gTerm, gEncrypt, gEncAns, gUnknown, gVersion, gReject, gPlain, gFeat, gLen, cUpd, List.length_append, List.length_cons, List.length_nil] at *; omega) | ((try simp only [decide_eq_true_eq, decide_eq_false_iff_not, Bool.not_eq_true, Bool.not_eq_false, Bool.and_eq_true, Bool.or_eq_true, Bool.not_not, cond_and, cond_or, List.length_append, List.length_cons, List.length_nil] at *); (first | done | ((first | omega | (intros; (try simp only [Bool.not_not, cond_and, cond_or, Bool.and_eq_true, decide_eq_true_eq] at *); (exact band_nn rfl _ _)) | (intros; (try simp only [Bool.not_not, cond_and, cond_or, Bool.and_eq_true, decide_eq_true_eq] at *); (exact (wu64s _).2.1)) | (intros; (try simp only [Bool.not_not, cond_and, cond_or, Bool.and_eq_true, decide_eq_true_eq] at *); (simp only [Bool.or_eq_false_iff, Bool.and_eq_false_iff, decide_eq_false_iff_not, decide_eq_true_eq, bne_iff_ne, beq_iff_eq, bne_eq_false_iff_eq, beq_eq_false_iff_ne, ne_eq, true_and] at *; omega)) | (intros; (try simp only [Bool.not_not, cond_and, cond_or, Bool.and_eq_true, decide_eq_true_eq] at *); (simp only [List.length_drop, List.length_take, List.length_append, List.length_cons, List.length_nil] at *; omega)) | (intros; (try simp only [Bool.not_not, cond_and, cond_or, Bool.and_eq_true, decide_eq_true_eq] at *); exact r1Power_ne (by omega) (by omega)) | (intros; (try simp only [Bool.not_not, cond_and, cond_or, Bool.and_eq_true, decide_eq_true_eq] at *); exact r1Power_ne (by omega) (by omega)) | (intros; omega) | (intros; simp only [sized_iff, Bool.not_not, cond_and, cond_or, Bool.and_eq_true, decide_eq_true_eq] at *; omega) | (intros; simp_all [sized_iff, Bool.not_not]; done)))))))
def r26Check.ct : Ct El := ctOf r26Check.dec (fun _ => []) (fun x => r26Check.res (r26Check x)) (fun x => r26Check.news (r26Check x))
theorem r26Check.ok : CtOk (mkCx Try.prog S [] 0) 15 r26Check.ct := ct_mk (C := (mkCx Try.prog S tab_r26TakeUpdate 0)) (mkCx_ok sigOk mixed tab_r26TakeUpdate_ok 0) r26Check.dec_ok (fun x => rfl) 4 (fun x _ => (r26Check.nf_ok x _).mpr (r26Check.key x _ rfl))
def tab_r26Check : List (FuncId × Ct El) := (15, r26Check.ct) :: tab_r26TakeUpdate
theorem tab_r26Check_ok : TabOk Try.prog S tab_r26Check := ⟨r26Check.ok, by kernel_rfl, tab_r26TakeUpdate_ok⟩

/-! wireless/wirelessref26.taken -/
def r26taken.res (r : Control) : AV El := Control.av (r)
def r26taken.news (r : Control) : List (AObj El) := []
def r26taken.L (e v : Control) : Prop := r26taken.res e = r26taken.res v ∧ r26taken.news e = r26taken.news v
def r26taken (c : Control) (b : List Int) : Control := cond (c.Kind == 0) ((⟨(c.Kind), ⟨((r26TakeUpdate b 1).WinSize), ((r26TakeUpdate b 1).WinOffset), ((r26TakeUpdate b 1).Interval), ((r26TakeUpdate b 1).Latency), ((r26TakeUpdate b 1).Timeout)⟩, (c.Map), (IntKind.wrap IntKind.u16 (r23Num b (IntKind.wrap IntKind.i64 ((1 : Int) + (9 : Int))) 2)), (c.Reason), (c.Rejected), (c.Salt), (c.Mark), (c.Features), (c.Version), (c.Length)⟩ : Control)) (cond (c.Kind == 1) ((⟨(c.Kind), ⟨(c.Update.WinSize), (c.Update.WinOffset), (c.Update.Interval), (c.Update.Latency), (c.Update.Timeout)⟩, (r23Num b 1 5), (IntKind.wrap IntKind.u16 (r23Num b (IntKind.wrap IntKind.i64 ((1 : Int) + (5 : Int))) 2)), (c.Reason), (c.Rejected), (c.Salt), (c.Mark), (c.Features), (c.Version), (c.Length)⟩ : Control)) (cond (c.Kind == 2) ((⟨(c.Kind), ⟨(c.Update.WinSize), (c.Update.WinOffset), (c.Update.Interval), (c.Update.Latency), (c.Update.Timeout)⟩, (c.Map), (c.Instant), (IntKind.wrap IntKind.i64 (List.getD b (Int.toNat 1) 0)), (c.Rejected), (c.Salt), (c.Mark), (c.Features), (c.Version), (c.Length)⟩ : Control)) (cond (c.Kind == 3) ((⟨(c.Kind), ⟨(c.Update.WinSize), (c.Update.WinOffset), (c.Update.Interval), (c.Update.Latency), (c.Update.Timeout)⟩, (c.Map), (c.Instant), (c.Reason), (c.Rejected), (r23Num b 1 8), (r23Num b (IntKind.wrap IntKind.i64 ((1 : Int) + (8 : Int))) 8), (c.Features), (c.Version), (c.Length)⟩ : Control)) (cond (c.Kind == 4) ((⟨(c.Kind), ⟨(c.Update.WinSize), (c.Update.WinOffset), (c.Update.Interval), (c.Update.Latency), (c.Update.Timeout)⟩, (c.Map), (c.Instant), (c.Reason), (c.Rejected), (r23Num b 1 8), (c.Mark), (c.Features), (c.Version), (c.Length)⟩ : Control)) (cond (c.Kind == 5) (c) (cond (c.Kind == 6) (c) (cond (c.Kind == 18) (c) (cond (c.Kind == 19) (c) (cond (c.Kind == 7) ((⟨(c.Kind), ⟨(c.Update.WinSize), (c.Update.WinOffset), (c.Update.Interval), (c.Update.Latency), (c.Update.Timeout)⟩, (c.Map), (c.Instant), (c.Reason), (IntKind.wrap IntKind.i64 (List.getD b (Int.toNat 1) 0)), (c.Salt), (c.Mark), (c.Features), (c.Version), (c.Length)⟩ : Control)) (cond (c.Kind == 8) ((⟨(c.Kind), ⟨(c.Update.WinSize), (c.Update.WinOffset), (c.Update.Interval), (c.Update.Latency), (c.Update.Timeout)⟩, (c.Map), (c.Instant), (c.Reason), (c.Rejected), (c.Salt), (c.Mark), (r23Num b 1 8), (c.Version), (c.Length)⟩ : Control)) (cond (c.Kind == 9) ((⟨(c.Kind), ⟨(c.Update.WinSize), (c.Update.WinOffset), (c.Update.Interval), (c.Update.Latency), (c.Update.Timeout)⟩, (c.Map), (c.Instant), (c.Reason), (c.Rejected), (c.Salt), (c.Mark), (r23Num b 1 8), (c.Version), (c.Length)⟩ : Control)) (cond (c.Kind == 12) ((⟨(c.Kind), ⟨(c.Update.WinSize), (c.Update.WinOffset), (c.Update.Interval), (c.Update.Latency), (c.Update.Timeout)⟩, (c.Map), (c.Instant), (c.Reason), (c.Rejected), (c.Salt), (c.Mark), (c.Features), (IntKind.wrap IntKind.i64 (List.getD b (Int.toNat 1) 0)), (c.Length)⟩ : Control)) (cond (c.Kind == 13) ((⟨(c.Kind), ⟨(c.Update.WinSize), (c.Update.WinOffset), (c.Update.Interval), (c.Update.Latency), (c.Update.Timeout)⟩, (c.Map), (c.Instant), (IntKind.wrap IntKind.i64 (List.getD b (Int.toNat 1) 0)), (IntKind.wrap IntKind.i64 (List.getD b (Int.toNat (IntKind.wrap IntKind.i64 ((1 : Int) + (1 : Int)))) 0)), (c.Salt), (c.Mark), (c.Features), (c.Version), (c.Length)⟩ : Control)) (cond (c.Kind == 15) ((⟨(c.Kind), ⟨((r26TakeUpdate b 1).WinSize), ((r26TakeUpdate b 1).WinOffset), ((r26TakeUpdate b 1).Interval), ((r26TakeUpdate b 1).Latency), ((r26TakeUpdate b 1).Timeout)⟩, (c.Map), (c.Instant), (c.Reason), (c.Rejected), (c.Salt), (c.Mark), (c.Features), (c.Version), (c.Length)⟩ : Control)) (cond (c.Kind == 20) ((⟨(c.Kind), ⟨(c.Update.WinSize), (c.Update.WinOffset), (c.Update.Interval), (c.Update.Latency), (c.Update.Timeout)⟩, (c.Map), (c.Instant), (c.Reason), (c.Rejected), (c.Salt), (c.Mark), (c.Features), (c.Version), (IntKind.wrap IntKind.i64 (List.getD b (Int.toNat 1) 0))⟩ : Control)) (cond (c.Kind == 21) ((⟨(c.Kind), ⟨(c.Update.WinSize), (c.Update.WinOffset), (c.Update.Interval), (c.Update.Latency), (c.Update.Timeout)⟩, (c.Map), (c.Instant), (c.Reason), (c.Rejected), (c.Salt), (c.Mark), (c.Features), (c.Version), (IntKind.wrap IntKind.i64 (List.getD b (Int.toNat 1) 0))⟩ : Control)) (c)))))))))))))))))
def r26taken.dec (cs : List (AV El)) : Option (Control × (List Int)) := popA Control.dec cs fun a0 c0 => popS 5 c0 fun a1 c1 => popE c1 (a0, a1)
def r26taken.enc (x : Control × (List Int)) : List (AV El) := [Control.av x.1, .sl 5 (x.2 : List (El 5)) false]
theorem r26taken.dec_ok : ∀ cs x, r26taken.dec cs = some x → Imp (S := S) cs (r26taken.enc x) := by
  intro cs x h
  unfold r26taken.dec at h
  obtain ⟨a0, c0, h0, k0⟩ := popA_some (S := S) Control.dec_ok h
  obtain ⟨a1, c1, h1, k1⟩ := popS_some (S := S) (t := 5) h0
  obtain ⟨rfl, rfl⟩ := popE_some (S := S) h1
  exact (k0 _ (k1 _ (.refl _)))
def r26taken.nf (c : Control) (b : List Int) (v : Control) : Prop := cond (c.Kind == 0) (Ob ((0 : Int) ≤ (1 : Int) ∧ (1 : Int) ≤ (1000 : Int) ∧ (1 : Int) + (9 : Int) ≤ (↑(List.length b) : Int)) ∧ (Ob (0 ≤ IntKind.wrap IntKind.i64 ((1 : Int) + (9 : Int)) ∧ (0 : Int) ≤ (2 : Int) ∧ (2 : Int) ≤ (8 : Int) ∧ IntKind.wrap IntKind.i64 ((1 : Int) + (9 : Int)) + (2 : Int) ≤ (↑(List.length b) : Int) ∧ IntKind.wrap IntKind.i64 ((1 : Int) + (9 : Int)) ≤ (1099511627776 : Int)) ∧ (r26taken.L ((⟨(c.Kind), ⟨((r26TakeUpdate b 1).WinSize), ((r26TakeUpdate b 1).WinOffset), ((r26TakeUpdate b 1).Interval), ((r26TakeUpdate b 1).Latency), ((r26TakeUpdate b 1).Timeout)⟩, (c.Map), (IntKind.wrap IntKind.u16 (r23Num b (IntKind.wrap IntKind.i64 ((1 : Int) + (9 : Int))) 2)), (c.Reason), (c.Rejected), (c.Salt), (c.Mark), (c.Features), (c.Version), (c.Length)⟩ : Control)) v))) (cond (c.Kind == 1) (Ob ((0 : Int) ≤ (1 : Int) ∧ (0 : Int) ≤ (5 : Int) ∧ (5 : Int) ≤ (8 : Int) ∧ (1 : Int) + (5 : Int) ≤ (↑(List.length b) : Int) ∧ (1 : Int) ≤ (1099511627776 : Int)) ∧ (Ob (0 ≤ IntKind.wrap IntKind.i64 ((1 : Int) + (5 : Int)) ∧ (0 : Int) ≤ (2 : Int) ∧ (2 : Int) ≤ (8 : Int) ∧ IntKind.wrap IntKind.i64 ((1 : Int) + (5 : Int)) + (2 : Int) ≤ (↑(List.length b) : Int) ∧ IntKind.wrap IntKind.i64 ((1 : Int) + (5 : Int)) ≤ (1099511627776 : Int)) ∧ (r26taken.L ((⟨(c.Kind), ⟨(c.Update.WinSize), (c.Update.WinOffset), (c.Update.Interval), (c.Update.Latency), (c.Update.Timeout)⟩, (r23Num b 1 5), (IntKind.wrap IntKind.u16 (r23Num b (IntKind.wrap IntKind.i64 ((1 : Int) + (5 : Int))) 2)), (c.Reason), (c.Rejected), (c.Salt), (c.Mark), (c.Features), (c.Version), (c.Length)⟩ : Control)) v))) (cond (c.Kind == 2) (Ob ((0 : Int) ≤ (1 : Int) ∧ 1 < (↑(List.length b) : Int)) ∧ (r26taken.L ((⟨(c.Kind), ⟨(c.Update.WinSize), (c.Update.WinOffset), (c.Update.Interval), (c.Update.Latency), (c.Update.Timeout)⟩, (c.Map), (c.Instant), (IntKind.wrap IntKind.i64 (List.getD b (Int.toNat 1) 0)), (c.Rejected), (c.Salt), (c.Mark), (c.Features), (c.Version), (c.Length)⟩ : Control)) v)) (cond (c.Kind == 3) (Ob ((0 : Int) ≤ (1 : Int) ∧ (0 : Int) ≤ (8 : Int) ∧ (8 : Int) ≤ (8 : Int) ∧ (1 : Int) + (8 : Int) ≤ (↑(List.length b) : Int) ∧ (1 : Int) ≤ (1099511627776 : Int)) ∧ (Ob (0 ≤ IntKind.wrap IntKind.i64 ((1 : Int) + (8 : Int)) ∧ (0 : Int) ≤ (8 : Int) ∧ (8 : Int) ≤ (8 : Int) ∧ IntKind.wrap IntKind.i64 ((1 : Int) + (8 : Int)) + (8 : Int) ≤ (↑(List.length b) : Int) ∧ IntKind.wrap IntKind.i64 ((1 : Int) + (8 : Int)) ≤ (1099511627776 : Int)) ∧ (r26taken.L ((⟨(c.Kind), ⟨(c.Update.WinSize), (c.Update.WinOffset), (c.Update.Interval), (c.Update.Latency), (c.Update.Timeout)⟩, (c.Map), (c.Instant), (c.Reason), (c.Rejected), (r23Num b 1 8), (r23Num b (IntKind.wrap IntKind.i64 ((1 : Int) + (8 : Int))) 8), (c.Features), (c.Version), (c.Length)⟩ : Control)) v))) (cond (c.Kind == 4) (Ob ((0 : Int) ≤ (1 : Int) ∧ (0 : Int) ≤ (8 : Int) ∧ (8 : Int) ≤ (8 : Int) ∧ (1 : Int) + (8 : Int) ≤ (↑(List.length b) : Int) ∧ (1 : Int) ≤ (1099511627776 : Int)) ∧ (r26taken.L ((⟨(c.Kind), ⟨(c.Update.WinSize), (c.Update.WinOffset), (c.Update.Interval), (c.Update.Latency), (c.Update.Timeout)⟩, (c.Map), (c.Instant), (c.Reason), (c.Rejected), (r23Num b 1 8), (c.Mark), (c.Features), (c.Version), (c.Length)⟩ : Control)) v)) (cond (c.Kind == 5) (r26taken.L (c) v) (cond (c.Kind == 6) (r26taken.L (c) v) (cond (c.Kind == 18) (r26taken.L (c) v) (cond (c.Kind == 19) (r26taken.L (c) v) (cond (c.Kind == 7) (Ob ((0 : Int) ≤ (1 : Int) ∧ 1 < (↑(List.length b) : Int)) ∧ (r26taken.L ((⟨(c.Kind), ⟨(c.Update.WinSize), (c.Update.WinOffset), (c.Update.Interval), (c.Update.Latency), (c.Update.Timeout)⟩, (c.Map), (c.Instant), (c.Reason), (IntKind.wrap IntKind.i64 (List.getD b (Int.toNat 1) 0)), (c.Salt), (c.Mark), (c.Features), (c.Version), (c.Length)⟩ : Control)) v)) (cond (c.Kind == 8) (Ob ((0 : Int) ≤ (1 : Int) ∧ (0 : Int) ≤ (8 : Int) ∧ (8 : Int) ≤ (8 : Int) ∧ (1 : Int) + (8 : Int) ≤ (↑(List.length b) : Int) ∧ (1 : Int) ≤ (1099511627776 : Int)) ∧ (r26taken.L ((⟨(c.Kind), ⟨(c.Update.WinSize), (c.Update.WinOffset), (c.Update.Interval), (c.Update.Latency), (c.Update.Timeout)⟩, (c.Map), (c.Instant), (c.Reason), (c.Rejected), (c.Salt), (c.Mark), (r23Num b 1 8), (c.Version), (c.Length)⟩ : Control)) v)) (cond (c.Kind == 9) (Ob ((0 : Int) ≤ (1 : Int) ∧ (0 : Int) ≤ (8 : Int) ∧ (8 : Int) ≤ (8 : Int) ∧ (1 : Int) + (8 : Int) ≤ (↑(List.length b) : Int) ∧ (1 : Int) ≤ (1099511627776 : Int)) ∧ (r26taken.L ((⟨(c.Kind), ⟨(c.Update.WinSize), (c.Update.WinOffset), (c.Update.Interval), (c.Update.Latency), (c.Update.Timeout)⟩, (c.Map), (c.Instant), (c.Reason), (c.Rejected), (c.Salt), (c.Mark), (r23Num b 1 8), (c.Version), (c.Length)⟩ : Control)) v)) (cond (c.Kind == 12) (Ob ((0 : Int) ≤ (1 : Int) ∧ 1 < (↑(List.length b) : Int)) ∧ (r26taken.L ((⟨(c.Kind), ⟨(c.Update.WinSize), (c.Update.WinOffset), (c.Update.Interval), (c.Update.Latency), (c.Update.Timeout)⟩, (c.Map), (c.Instant), (c.Reason), (c.Rejected), (c.Salt), (c.Mark), (c.Features), (IntKind.wrap IntKind.i64 (List.getD b (Int.toNat 1) 0)), (c.Length)⟩ : Control)) v)) (cond (c.Kind == 13) (Ob ((0 : Int) ≤ (1 : Int) ∧ 1 < (↑(List.length b) : Int)) ∧ (Ob (0 ≤ IntKind.wrap IntKind.i64 ((1 : Int) + (1 : Int)) ∧ IntKind.wrap IntKind.i64 ((1 : Int) + (1 : Int)) < (↑(List.length b) : Int)) ∧ (r26taken.L ((⟨(c.Kind), ⟨(c.Update.WinSize), (c.Update.WinOffset), (c.Update.Interval), (c.Update.Latency), (c.Update.Timeout)⟩, (c.Map), (c.Instant), (IntKind.wrap IntKind.i64 (List.getD b (Int.toNat 1) 0)), (IntKind.wrap IntKind.i64 (List.getD b (Int.toNat (IntKind.wrap IntKind.i64 ((1 : Int) + (1 : Int)))) 0)), (c.Salt), (c.Mark), (c.Features), (c.Version), (c.Length)⟩ : Control)) v))) (cond (c.Kind == 15) (Ob ((0 : Int) ≤ (1 : Int) ∧ (1 : Int) ≤ (1000 : Int) ∧ (1 : Int) + (9 : Int) ≤ (↑(List.length b) : Int)) ∧ (r26taken.L ((⟨(c.Kind), ⟨((r26TakeUpdate b 1).WinSize), ((r26TakeUpdate b 1).WinOffset), ((r26TakeUpdate b 1).Interval), ((r26TakeUpdate b 1).Latency), ((r26TakeUpdate b 1).Timeout)⟩, (c.Map), (c.Instant), (c.Reason), (c.Rejected), (c.Salt), (c.Mark), (c.Features), (c.Version), (c.Length)⟩ : Control)) v)) (cond (c.Kind == 20) (Ob ((0 : Int) ≤ (1 : Int) ∧ 1 < (↑(List.length b) : Int)) ∧ (r26taken.L ((⟨(c.Kind), ⟨(c.Update.WinSize), (c.Update.WinOffset), (c.Update.Interval), (c.Update.Latency), (c.Update.Timeout)⟩, (c.Map), (c.Instant), (c.Reason), (c.Rejected), (c.Salt), (c.Mark), (c.Features), (c.Version), (IntKind.wrap IntKind.i64 (List.getD b (Int.toNat 1) 0))⟩ : Control)) v)) (cond (c.Kind == 21) (Ob ((0 : Int) ≤ (1 : Int) ∧ 1 < (↑(List.length b) : Int)) ∧ (r26taken.L ((⟨(c.Kind), ⟨(c.Update.WinSize), (c.Update.WinOffset), (c.Update.Interval), (c.Update.Latency), (c.Update.Timeout)⟩, (c.Map), (c.Instant), (c.Reason), (c.Rejected), (c.Salt), (c.Mark), (c.Features), (c.Version), (IntKind.wrap IntKind.i64 (List.getD b (Int.toNat 1) 0))⟩ : Control)) v)) (r26taken.L (c) v)))))))))))))))))
theorem r26taken.nf_ok (c : Control) (b : List Int) (v : Control) : evFun (mkCx Try.prog S tab_r26TakeUpdate 0) 4 45 [Control.av c, .sl 5 (b : List (El 5)) false] [] (fun r' H' => Gives r' H' (r26taken.res v) (r26taken.news v)) = r26taken.nf c b v := by kernel_rfl
theorem r26taken.key (c : Control) (b : List Int) (hp : r26size c.Kind ≤ b.length ∧ b.length ≤ 1000) (v : Control) (hv : v = r26taken c b) : r26taken.nf c b v := by
  unfold r26taken at hv
  unfold r26taken.nf
  revert hv; refine by_cond2 (fun hb hv => ?_) (fun hb hv => ?_)
  refine ⟨⟨?_⟩, ?_⟩; rotate_left
  refine ⟨⟨by (try clear hv); (try clear q1 q2); (try clear hk); (first | omega | (simp only [cUpd, List.length_append, List.length_cons, List.length_nil] at *; omega) | (have e := eq_of_beq hb; rw [e] at hp; simp only [rs0, rs1, rs2, rs3, rs4, rs5, rs6, rs7, rs8, rs9, rs12, rs13, rs15, rs18, rs19, rs20, rs21] at hp; (repeat rw [wi64 _ (by omega) (by omega)]); omega) | (simp only [gUpdate, gMap, gParams, gTerm, gEncrypt, gEncAns, gUnknown, gVersion, gReject, gPlain, gFeat, gLen, cUpd, List.length_append, List.length_cons, List.length_nil] at *; omega) | ((try simp only [decide_eq_true_eq, decide_eq_false_iff_not, Bool.not_eq_true, Bool.not_eq_false, Bool.and_eq_true, Bool.or_eq_true, Bool.not_not, cond_and, cond_or, List.length_append, List.length_cons, List.length_nil] at *); (first | done | (have := wi64s ((1 : Int) + (9 : Int)); (first | omega | (intros; (try simp only [Bool.not_not, cond_and, cond_or, Bool.and_eq_true, decide_eq_true_eq] at *); (exact band_nn rfl _ _)) | (intros; (try simp only [Bool.not_not, cond_and, cond_or, Bool.and_eq_true, decide_eq_true_eq] at *); (exact (wu64s _).2.1)) | (intros; (try simp only [Bool.not_not, cond_and, cond_or, Bool.and_eq_true, decide_eq_true_eq] at *); (simp only [Bool.or_eq_false_iff, Bool.and_eq_false_iff, decide_eq_false_iff_not, decide_eq_true_eq, bne_iff_ne, beq_iff_eq, bne_eq_false_iff_eq, beq_eq_false_iff_ne, ne_eq, true_and] at *; omega)) | (intros; (try simp only [Bool.not_not, cond_and, cond_or, Bool.and_eq_true, decide_eq_true_eq] at *); (simp only [List.length_drop, List.length_take, List.length_append, List.length_cons, List.length_nil] at *; omega)) | (intros; (try simp only [Bool.not_not, cond_and, cond_or, Bool.and_eq_true, decide_eq_true_eq] at *); exact r1Power_ne (by omega) (by omega)) | (intros; (try simp only [Bool.not_not, cond_and, cond_or, Bool.and_eq_true, decide_eq_true_eq] at *); exact r1Power_ne (by omega) (by omega)) | (intros; omega) | (intros; simp only [sized_iff, Bool.not_not, cond_and, cond_or, Bool.and_eq_true, decide_eq_true_eq] at *; omega) | (intros; simp_all [sized_iff, Bool.not_not]; done))))))⟩, ?_⟩
  subst hv; exact ⟨rfl, rfl⟩
  revert hv; refine by_cond2 (fun hb hv => ?_) (fun hb hv => ?_)
  refine ⟨⟨?_⟩, ?_⟩; rotate_left
  refine ⟨⟨by (try clear hv); (try clear q1 q2); (try clear hk); (first | omega | (simp only [cUpd, List.length_append, List.length_cons, List.length_nil] at *; omega) | (have e := eq_of_beq hb; rw [e] at hp; simp only [rs0, rs1, rs2, rs3, rs4, rs5, rs6, rs7, rs8, rs9, rs12, rs13, rs15, rs18, rs19, rs20, rs21] at hp; (repeat rw [wi64 _ (by omega) (by omega)]); omega) | (simp only [gUpdate, gMap, gParams, gTerm, gEncrypt, gEncAns, gUnknown, gVersion, gReject, gPlain, gFeat, gLen, cUpd, List.length_append, List.length_cons, List.length_nil] at *; omega) | ((try simp only [decide_eq_true_eq, decide_eq_false_iff_not, Bool.not_eq_true, Bool.not_eq_false, Bool.and_eq_true, Bool.or_eq_true, Bool.not_not, cond_and, cond_or, List.length_append, List.length_cons, List.length_nil] at *); (first | done | (have := wi64s ((1 : Int) + (5 : Int)); (first | omega | (intros; (try simp only [Bool.not_not, cond_and, cond_or, Bool.and_eq_true, decide_eq_true_eq] at *); (exact band_nn rfl _ _)) | (intros; (try simp only [Bool.not_not, cond_and, cond_or, Bool.and_eq_true, decide_eq_true_eq] at *); (exact (wu64s _).2.1)) | (intros; (try simp only [Bool.not_not, cond_and, cond_or, Bool.and_eq_true, decide_eq_true_eq] at *); (simp only [Bool.or_eq_false_iff, Bool.and_eq_false_iff, decide_eq_false_iff_not, decide_eq_true_eq, bne_iff_ne, beq_iff_eq, bne_eq_false_iff_eq, beq_eq_false_iff_ne, ne_eq, true_and] at *; omega)) | (intros; (try simp only [Bool.not_not, cond_and, cond_or, Bool.and_eq_true, decide_eq_true_eq] at *); (simp only [List.length_drop, List.length_take, List.length_append, List.length_cons, List.length_nil] at *; omega)) | (intros; (try simp only [Bool.not_not, cond_and, cond_or, Bool.and_eq_true, decide_eq_true_eq] at *); exact r1Power_ne (by omega) (by omega)) | (intros; (try simp only [Bool.not_not, cond_and, cond_or, Bool.and_eq_true, decide_eq_true_eq] at *); exact r1Power_ne (by omega) (by omega)) | (intros; omega) | (intros; simp only [sized_iff, Bool.not_not, cond_and, cond_or, Bool.and_eq_true, decide_eq_true_eq] at *; omega) | (intros; simp_all [sized_iff, Bool.not_not]; done))))))⟩, ?_⟩
  subst hv; exact ⟨rfl, rfl⟩
  revert hv; refine by_cond2 (fun hb hv => ?_) (fun hb hv => ?_)
  refine ⟨⟨?_⟩, ?_⟩; rotate_left
  subst hv; exact ⟨rfl, rfl⟩
  revert hv; refine by_cond2 (fun hb hv => ?_) (fun hb hv => ?_)
  refine ⟨⟨?_⟩, ?_⟩; rotate_left
  refine ⟨⟨by (try clear hv); (try clear q1 q2); (try clear hk); (first | omega | (simp only [cUpd, List.length_append, List.length_cons, List.length_nil] at *; omega) | (have e := eq_of_beq hb; rw [e] at hp; simp only [rs0, rs1, rs2, rs3, rs4, rs5, rs6, rs7, rs8, rs9, rs12, rs13, rs15, rs18, rs19, rs20, rs21] at hp; (repeat rw [wi64 _ (by omega) (by omega)]); omega) | (simp only [gUpdate, gMap, gParams, gTerm, gEncrypt, gEncAns, gUnknown, gVersion, gReject, gPlain, gFeat, gLen, cUpd, List.length_append, List.length_cons, List.length_nil] at *; omega) | ((try simp only [decide_eq_true_eq, decide_eq_false_iff_not, Bool.not_eq_true, Bool.not_eq_false, Bool.and_eq_true, Bool.or_eq_true, Bool.not_not, cond_and, cond_or, List.length_append, List.length_cons, List.length_nil] at *); (first | done | (have := wi64s ((1 : Int) + (8 : Int)); (first | omega | (intros; (try simp only [Bool.not_not, cond_and, cond_or, Bool.and_eq_true, decide_eq_true_eq] at *); (exact band_nn rfl _ _)) | (intros; (try simp only [Bool.not_not, cond_and, cond_or, Bool.and_eq_true, decide_eq_true_eq] at *); (exact (wu64s _).2.1)) | (intros; (try simp only [Bool.not_not, cond_and, cond_or, Bool.and_eq_true, decide_eq_true_eq] at *); (simp only [Bool.or_eq_false_iff, Bool.and_eq_false_iff, decide_eq_false_iff_not, decide_eq_true_eq, bne_iff_ne, beq_iff_eq, bne_eq_false_iff_eq, beq_eq_false_iff_ne, ne_eq, true_and] at *; omega)) | (intros; (try simp only [Bool.not_not, cond_and, cond_or, Bool.and_eq_true, decide_eq_true_eq] at *); (simp only [List.length_drop, List.length_take, List.length_append, List.length_cons, List.length_nil] at *; omega)) | (intros; (try simp only [Bool.not_not, cond_and, cond_or, Bool.and_eq_true, decide_eq_true_eq] at *); exact r1Power_ne (by omega) (by omega)) | (intros; (try simp only [Bool.not_not, cond_and, cond_or, Bool.and_eq_true, decide_eq_true_eq] at *); exact r1Power_ne (by omega) (by omega)) | (intros; omega) | (intros; simp only [sized_iff, Bool.not_not, cond_and, cond_or, Bool.and_eq_true, decide_eq_true_eq] at *; omega) | (intros; simp_all [sized_iff, Bool.not_not]; done))))))⟩, ?_⟩
  subst hv; exact ⟨rfl, rfl⟩
  revert hv; refine by_cond2 (fun hb hv => ?_) (fun hb hv => ?_)
  refine ⟨⟨?_⟩, ?_⟩; rotate_left
  subst hv; exact ⟨rfl, rfl⟩
  revert hv; refine by_cond2 (fun hb hv => ?_) (fun hb hv => ?_)
  subst hv; exact ⟨rfl, rfl⟩
  revert hv; refine by_cond2 (fun hb hv => ?_) (fun hb hv => ?_)
  subst hv; exact ⟨rfl, rfl⟩
  revert hv; refine by_cond2 (fun hb hv => ?_) (fun hb hv => ?_)
  subst hv; exact ⟨rfl, rfl⟩
  revert hv; refine by_cond2 (fun hb hv => ?_) (fun hb hv => ?_)
  subst hv; exact ⟨rfl, rfl⟩
  revert hv; refine by_cond2 (fun hb hv => ?_) (fun hb hv => ?_)
  refine ⟨⟨?_⟩, ?_⟩; rotate_left
  subst hv; exact ⟨rfl, rfl⟩
  revert hv; refine by_cond2 (fun hb hv => ?_) (fun hb hv => ?_)
  refine ⟨⟨?_⟩, ?_⟩; rotate_left
  subst hv; exact ⟨rfl, rfl⟩
  revert hv; refine by_cond2 (fun hb hv => ?_) (fun hb hv => ?_)
  refine ⟨⟨?_⟩, ?_⟩; rotate_left
  subst hv; exact ⟨rfl, rfl⟩
  revert hv; refine by_cond2 (fun hb hv => ?_) (fun hb hv => ?_)
  refine ⟨⟨?_⟩, ?_⟩; rotate_left
  subst hv; exact ⟨rfl, rfl⟩
  revert hv; refine by_cond2 (fun hb hv => ?_) (fun hb hv => ?_)
  refine ⟨⟨?_⟩, ?_⟩; rotate_left
  refine ⟨⟨by (try clear hv); (try clear q1 q2); (try clear hk); (first | omega | (simp only [cUpd, List.length_append, List.length_cons, List.length_nil] at *; omega) | (have e := eq_of_beq hb; rw [e] at hp; simp only [rs0, rs1, rs2, rs3, rs4, rs5, rs6, rs7, rs8, rs9, rs12, rs13, rs15, rs18, rs19, rs20, rs21] at hp; (repeat rw [wi64 _ (by omega) (by omega)]); omega) | (simp only [gUpdate, gMap, gParams, gTerm, gEncrypt, gEncAns, gUnknown, gVersion, gReject, gPlain, gFeat, gLen, cUpd, List.length_append, List.length_cons, List.length_nil] at *; omega) | ((try simp only [decide_eq_true_eq, decide_eq_false_iff_not, Bool.not_eq_true, Bool.not_eq_false, Bool.and_eq_true, Bool.or_eq_true, Bool.not_not, cond_and, cond_or, List.length_append, List.length_cons, List.length_nil] at *); (first | done | (have := wi64s ((1 : Int) + (1 : Int)); (first | omega | (intros; (try simp only [Bool.not_not, cond_and, cond_or, Bool.and_eq_true, decide_eq_true_eq] at *); (exact band_nn rfl _ _)) | (intros; (try simp only [Bool.not_not, cond_and, cond_or, Bool.and_eq_true, decide_eq_true_eq] at *); (exact (wu64s _).2.1)) | (intros; (try simp only [Bool.not_not, cond_and, cond_or, Bool.and_eq_true, decide_eq_true_eq] at *); (simp only [Bool.or_eq_false_iff, Bool.and_eq_false_iff, decide_eq_false_iff_not, decide_eq_true_eq, bne_iff_ne, beq_iff_eq, bne_eq_false_iff_eq, beq_eq_false_iff_ne, ne_eq, true_and] at *; omega)) | (intros; (try simp only [Bool.not_not, cond_and, cond_or, Bool.and_eq_true, decide_eq_true_eq] at *); (simp only [List.length_drop, List.length_take, List.length_append, List.length_cons, List.length_nil] at *; omega)) | (intros; (try simp only [Bool.not_not, cond_and, cond_or, Bool.and_eq_true, decide_eq_true_eq] at *); exact r1Power_ne (by omega) (by omega)) | (intros; (try simp only [Bool.not_not, cond_and, cond_or, Bool.and_eq_true, decide_eq_true_eq] at *); exact r1Power_ne (by omega) (by omega)) | (intros; omega) | (intros; simp only [sized_iff, Bool.not_not, cond_and, cond_or, Bool.and_eq_true, decide_eq_true_eq] at *; omega) | (intros; simp_all [sized_iff, Bool.not_not]; done))))))⟩, ?_⟩
  subst hv; exact ⟨rfl, rfl⟩
  revert hv; refine by_cond2 (fun hb hv => ?_) (fun hb hv => ?_)
  refine ⟨⟨?_⟩, ?_⟩; rotate_left
  subst hv; exact ⟨rfl, rfl⟩
  revert hv; refine by_cond2 (fun hb hv => ?_) (fun hb hv => ?_)
  refine ⟨⟨?_⟩, ?_⟩; rotate_left
  subst hv; exact ⟨rfl, rfl⟩
  revert hv; refine by_cond2 (fun hb hv => ?_) (fun hb hv => ?_)
  refine ⟨⟨?_⟩, ?_⟩; rotate_left
  subst hv; exact ⟨rfl, rfl⟩
  subst hv; exact ⟨rfl, rfl⟩
  all_goals ((try clear hv); (try clear q1 q2); (try clear hk); (first | omega | (simp only [cUpd, List.length_append, List.length_cons, List.length_nil] at *; omega) | (have e := eq_of_beq hb; rw [e] at hp; simp only [rs0, rs1, rs2, rs3, rs4, rs5, rs6, rs7, rs8, rs9, rs12, rs13, rs15, rs18, rs19, rs20, rs21] at hp; (repeat rw [wi64 _ (by omega) (by omega)]); omega) | (simp only [gUpdate, gMap, gParams, gTerm, gEncrypt, gEncAns, gUnknown, gVersion, gReject, gPlain, gFeat, gLen, cUpd, List.length_append, List.length_cons, List.length_nil] at *; omega) | ((try simp only [decide_eq_true_eq, decide_eq_false_iff_not, Bool.not_eq_true, Bool.not_eq_false, Bool.and_eq_true, Bool.or_eq_true, Bool.not_not, cond_and, cond_or, List.length_append, List.length_cons, List.length_nil] at *); (first | done | ((first | omega | (intros; (try simp only [Bool.not_not, cond_and, cond_or, Bool.and_eq_true, decide_eq_true_eq] at *); (exact band_nn rfl _ _)) | (intros; (try simp only [Bool.not_not, cond_and, cond_or, Bool.and_eq_true, decide_eq_true_eq] at *); (exact (wu64s _).2.1)) | (intros; (try simp only [Bool.not_not, cond_and, cond_or, Bool.and_eq_true, decide_eq_true_eq] at *); (simp only [Bool.or_eq_false_iff, Bool.and_eq_false_iff, decide_eq_false_iff_not, decide_eq_true_eq, bne_iff_ne, beq_iff_eq, bne_eq_false_iff_eq, beq_eq_false_iff_ne, ne_eq, true_and] at *; omega)) | (intros; (try simp only [Bool.not_not, cond_and, cond_or, Bool.and_eq_true, decide_eq_true_eq] at *); (simp only [List.length_drop, List.length_take, List.length_append, List.length_cons, List.length_nil] at *; omega)) | (intros; (try simp only [Bool.not_not, cond_and, cond_or, Bool.and_eq_true, decide_eq_true_eq] at *); exact r1Power_ne (by omega) (by omega)) | (intros; (try simp only [Bool.not_not, cond_and, cond_or, Bool.and_eq_true, decide_eq_true_eq] at *); exact r1Power_ne (by omega) (by omega)) | (intros; omega) | (intros; simp only [sized_iff, Bool.not_not, cond_and, cond_or, Bool.and_eq_true, decide_eq_true_eq] at *; omega) | (intros; simp_all [sized_iff, Bool.not_not]; done)))))))
def r26taken.ct : Ct El := ctOf r26taken.dec (fun x => [r26size x.1.Kind ≤ x.2.length ∧ x.2.length ≤ 1000]) (fun x => r26taken.res (r26taken x.1 x.2)) (fun x => r26taken.news (r26taken x.1 x.2))
theorem r26taken.ok : CtOk (mkCx Try.prog S [] 0) 45 r26taken.ct := ct_mk (C := (mkCx Try.prog S tab_r26TakeUpdate 0)) (mkCx_ok sigOk mixed tab_r26TakeUpdate_ok 0) r26taken.dec_ok (fun x => rfl) 4 (fun x hp => (r26taken.nf_ok x.1 x.2 _).mpr (r26taken.key x.1 x.2 (hp _ (List.mem_singleton.2 rfl)) _ rfl))
def tab_r26taken : List (FuncId × Ct El) := (45, r26taken.ct) :: tab_r26Check
theorem tab_r26taken_ok : TabOk Try.prog S tab_r26taken := ⟨r26taken.ok, by kernel_rfl, tab_r26Check_ok⟩

/-! wireless/ctrlpdu.Check -/
def cCheck.res (r : Int) : AV El := .v (.int .i64 (r))
def cCheck.news (r : Int) : List (AObj El) := []
def cCheck.L (e v : Int) : Prop := cCheck.res e = cCheck.res v ∧ cCheck.news e = cCheck.news v
def cCheck (c : Control) : Int := cond (c.Kind == 5) (cond (!(c.Kind == c.Kind && (0 == c.Update.WinSize && (0 == c.Update.WinOffset && (0 == c.Update.Interval && (0 == c.Update.Latency && (0 == c.Update.Timeout && (0 == c.Map && (0 == c.Instant && (0 == c.Reason && (0 == c.Rejected && (0 == c.Salt && (0 == c.Mark && (0 == c.Features && (0 == c.Version && 0 == c.Length))))))))))))))) (1) (cFine c)) (cond (c.Kind == 6) (cond (!(c.Kind == c.Kind && (0 == c.Update.WinSize && (0 == c.Update.WinOffset && (0 == c.Update.Interval && (0 == c.Update.Latency && (0 == c.Update.Timeout && (0 == c.Map && (0 == c.Instant && (0 == c.Reason && (0 == c.Rejected && (0 == c.Salt && (0 == c.Mark && (0 == c.Features && (0 == c.Version && 0 == c.Length))))))))))))))) (1) (cFine c)) (cond (c.Kind == 18) (cond (!(c.Kind == c.Kind && (0 == c.Update.WinSize && (0 == c.Update.WinOffset && (0 == c.Update.Interval && (0 == c.Update.Latency && (0 == c.Update.Timeout && (0 == c.Map && (0 == c.Instant && (0 == c.Reason && (0 == c.Rejected && (0 == c.Salt && (0 == c.Mark && (0 == c.Features && (0 == c.Version && 0 == c.Length))))))))))))))) (1) (cFine c)) (cond (c.Kind == 19) (cond (!(c.Kind == c.Kind && (0 == c.Update.WinSize && (0 == c.Update.WinOffset && (0 == c.Update.Interval && (0 == c.Update.Latency && (0 == c.Update.Timeout && (0 == c.Map && (0 == c.Instant && (0 == c.Reason && (0 == c.Rejected && (0 == c.Salt && (0 == c.Mark && (0 == c.Features && (0 == c.Version && 0 == c.Length))))))))))))))) (1) (cFine c)) (cond (c.Kind == 8) (cond (!(c.Kind == c.Kind && (0 == c.Update.WinSize && (0 == c.Update.WinOffset && (0 == c.Update.Interval && (0 == c.Update.Latency && (0 == c.Update.Timeout && (0 == c.Map && (0 == c.Instant && (0 == c.Reason && (0 == c.Rejected && (0 == c.Salt && (0 == c.Mark && (List.getD (gFeat c) (Int.toNat 0) 0 == c.Features && (0 == c.Version && 0 == c.Length))))))))))))))) (1) (cFine c)) (cond (c.Kind == 9) (cond (!(c.Kind == c.Kind && (0 == c.Update.WinSize && (0 == c.Update.WinOffset && (0 == c.Update.Interval && (0 == c.Update.Latency && (0 == c.Update.Timeout && (0 == c.Map && (0 == c.Instant && (0 == c.Reason && (0 == c.Rejected && (0 == c.Salt && (0 == c.Mark && (List.getD (gFeat c) (Int.toNat 0) 0 == c.Features && (0 == c.Version && 0 == c.Length))))))))))))))) (1) (cFine c)) (cond (c.Kind == 20) (cond (!(c.Kind == c.Kind && (0 == c.Update.WinSize && (0 == c.Update.WinOffset && (0 == c.Update.Interval && (0 == c.Update.Latency && (0 == c.Update.Timeout && (0 == c.Map && (0 == c.Instant && (0 == c.Reason && (0 == c.Rejected && (0 == c.Salt && (0 == c.Mark && (0 == c.Features && (0 == c.Version && IntKind.wrap IntKind.i64 (List.getD (gLen c) (Int.toNat 0) 0) == c.Length))))))))))))))) (1) (cIn c.Length 27 251)) (cond (c.Kind == 21) (cond (!(c.Kind == c.Kind && (0 == c.Update.WinSize && (0 == c.Update.WinOffset && (0 == c.Update.Interval && (0 == c.Update.Latency && (0 == c.Update.Timeout && (0 == c.Map && (0 == c.Instant && (0 == c.Reason && (0 == c.Rejected && (0 == c.Salt && (0 == c.Mark && (0 == c.Features && (0 == c.Version && IntKind.wrap IntKind.i64 (List.getD (gLen c) (Int.toNat 0) 0) == c.Length))))))))))))))) (1) (cIn c.Length 27 251)) (cond (c.Kind == 0) (cond (!(c.Kind == c.Kind && ((cUpdated (gUpdate c)).WinSize == c.Update.WinSize && ((cUpdated (gUpdate c)).WinOffset == c.Update.WinOffset && ((cUpdated (gUpdate c)).Interval == c.Update.Interval && ((cUpdated (gUpdate c)).Latency == c.Update.Latency && ((cUpdated (gUpdate c)).Timeout == c.Update.Timeout && (0 == c.Map && (IntKind.wrap IntKind.u16 (List.getD (gUpdate c) (Int.toNat 5) 0) == c.Instant && (0 == c.Reason && (0 == c.Rejected && (0 == c.Salt && (0 == c.Mark && (0 == c.Features && (0 == c.Version && 0 == c.Length))))))))))))))) (1) (cCheckUpdate c.Update)) (cond (c.Kind == 1) (cond (!(c.Kind == c.Kind && (0 == c.Update.WinSize && (0 == c.Update.WinOffset && (0 == c.Update.Interval && (0 == c.Update.Latency && (0 == c.Update.Timeout && (List.getD (gMap c) (Int.toNat 0) 0 == c.Map && (IntKind.wrap IntKind.u16 (List.getD (gMap c) (Int.toNat 1) 0) == c.Instant && (0 == c.Reason && (0 == c.Rejected && (0 == c.Salt && (0 == c.Mark && (0 == c.Features && (0 == c.Version && 0 == c.Length))))))))))))))) (1) (kCheck c.Map)) (cond (c.Kind == 15) (cond (!(c.Kind == c.Kind && ((cUpdated (gParams c)).WinSize == c.Update.WinSize && ((cUpdated (gParams c)).WinOffset == c.Update.WinOffset && ((cUpdated (gParams c)).Interval == c.Update.Interval && ((cUpdated (gParams c)).Latency == c.Update.Latency && ((cUpdated (gParams c)).Timeout == c.Update.Timeout && (0 == c.Map && (0 == c.Instant && (0 == c.Reason && (0 == c.Rejected && (0 == c.Salt && (0 == c.Mark && (0 == c.Features && (0 == c.Version && 0 == c.Length))))))))))))))) (1) (cCheckUpdate c.Update)) (cond (c.Kind == 2) (cond (!(c.Kind == c.Kind && (0 == c.Update.WinSize && (0 == c.Update.WinOffset && (0 == c.Update.Interval && (0 == c.Update.Latency && (0 == c.Update.Timeout && (0 == c.Map && (0 == c.Instant && (IntKind.wrap IntKind.i64 (List.getD (gTerm c) (Int.toNat 0) 0) == c.Reason && (0 == c.Rejected && (0 == c.Salt && (0 == c.Mark && (0 == c.Features && (0 == c.Version && 0 == c.Length))))))))))))))) (1) (cIn c.Reason 0 255)) (cond (c.Kind == 3) (cond (!(c.Kind == c.Kind && (0 == c.Update.WinSize && (0 == c.Update.WinOffset && (0 == c.Update.Interval && (0 == c.Update.Latency && (0 == c.Update.Timeout && (0 == c.Map && (0 == c.Instant && (0 == c.Reason && (0 == c.Rejected && (List.getD (gEncrypt c) (Int.toNat 0) 0 == c.Salt && (List.getD (gEncrypt c) (Int.toNat 1) 0 == c.Mark && (0 == c.Features && (0 == c.Version && 0 == c.Length))))))))))))))) (1) (cFine c)) (cond (c.Kind == 4) (cond (!(c.Kind == c.Kind && (0 == c.Update.WinSize && (0 == c.Update.WinOffset && (0 == c.Update.Interval && (0 == c.Update.Latency && (0 == c.Update.Timeout && (0 == c.Map && (0 == c.Instant && (0 == c.Reason && (0 == c.Rejected && (List.getD (gEncAns c) (Int.toNat 0) 0 == c.Salt && (0 == c.Mark && (0 == c.Features && (0 == c.Version && 0 == c.Length))))))))))))))) (1) (cFine c)) (cond (c.Kind == 7) (cond (!(c.Kind == c.Kind && (0 == c.Update.WinSize && (0 == c.Update.WinOffset && (0 == c.Update.Interval && (0 == c.Update.Latency && (0 == c.Update.Timeout && (0 == c.Map && (0 == c.Instant && (0 == c.Reason && (IntKind.wrap IntKind.i64 (List.getD (gUnknown c) (Int.toNat 0) 0) == c.Rejected && (0 == c.Salt && (0 == c.Mark && (0 == c.Features && (0 == c.Version && 0 == c.Length))))))))))))))) (1) (cIn c.Rejected 0 255)) (cond (c.Kind == 12) (cond (!(c.Kind == c.Kind && (0 == c.Update.WinSize && (0 == c.Update.WinOffset && (0 == c.Update.Interval && (0 == c.Update.Latency && (0 == c.Update.Timeout && (0 == c.Map && (0 == c.Instant && (0 == c.Reason && (0 == c.Rejected && (0 == c.Salt && (0 == c.Mark && (0 == c.Features && (IntKind.wrap IntKind.i64 (List.getD (gVersion c) (Int.toNat 0) 0) == c.Version && 0 == c.Length))))))))))))))) (1) (cIn c.Version 0 255)) (cond (c.Kind == 13) (cond (!(c.Kind == c.Kind && (0 == c.Update.WinSize && (0 == c.Update.WinOffset && (0 == c.Update.Interval && (0 == c.Update.Latency && (0 == c.Update.Timeout && (0 == c.Map && (0 == c.Instant && (IntKind.wrap IntKind.i64 (List.getD (gReject c) (Int.toNat 0) 0) == c.Reason && (IntKind.wrap IntKind.i64 (List.getD (gReject c) (Int.toNat 1) 0) == c.Rejected && (0 == c.Salt && (0 == c.Mark && (0 == c.Features && (0 == c.Version && 0 == c.Length))))))))))))))) (1) (maxI (cIn c.Reason 0 255) (cIn c.Rejected 0 255))) (12)))))))))))))))))
def cCheck.dec (cs : List (AV El)) : Option (Control) := popA Control.dec cs fun a0 c0 => popE c0 a0
def cCheck.enc (x : Control) : List (AV El) := [Control.av x]
theorem cCheck.dec_ok : ∀ cs x, cCheck.dec cs = some x → Imp (S := S) cs (cCheck.enc x) := by
  intro cs x h
  unfold cCheck.dec at h
  obtain ⟨a0, c0, h0, k0⟩ := popA_some (S := S) Control.dec_ok h
  obtain ⟨rfl, rfl⟩ := popE_some (S := S) h0
  exact (k0 _ (.refl _))
def cCheck.nf (c : Control) (v : Int) : Prop := cond (c.Kind == 5) (cond (!(c.Kind == c.Kind && (0 == c.Update.WinSize && (0 == c.Update.WinOffset && (0 == c.Update.Interval && (0 == c.Update.Latency && (0 == c.Update.Timeout && (0 == c.Map && (0 == c.Instant && (0 == c.Reason && (0 == c.Rejected && (0 == c.Salt && (0 == c.Mark && (0 == c.Features && (0 == c.Version && 0 == c.Length))))))))))))))) (cCheck.L (1) v) (cCheck.L (cFine c) v)) (cond (c.Kind == 6) (cond (!(c.Kind == c.Kind && (0 == c.Update.WinSize && (0 == c.Update.WinOffset && (0 == c.Update.Interval && (0 == c.Update.Latency && (0 == c.Update.Timeout && (0 == c.Map && (0 == c.Instant && (0 == c.Reason && (0 == c.Rejected && (0 == c.Salt && (0 == c.Mark && (0 == c.Features && (0 == c.Version && 0 == c.Length))))))))))))))) (cCheck.L (1) v) (cCheck.L (cFine c) v)) (cond (c.Kind == 18) (cond (!(c.Kind == c.Kind && (0 == c.Update.WinSize && (0 == c.Update.WinOffset && (0 == c.Update.Interval && (0 == c.Update.Latency && (0 == c.Update.Timeout && (0 == c.Map && (0 == c.Instant && (0 == c.Reason && (0 == c.Rejected && (0 == c.Salt && (0 == c.Mark && (0 == c.Features && (0 == c.Version && 0 == c.Length))))))))))))))) (cCheck.L (1) v) (cCheck.L (cFine c) v)) (cond (c.Kind == 19) (cond (!(c.Kind == c.Kind && (0 == c.Update.WinSize && (0 == c.Update.WinOffset && (0 == c.Update.Interval && (0 == c.Update.Latency && (0 == c.Update.Timeout && (0 == c.Map && (0 == c.Instant && (0 == c.Reason && (0 == c.Rejected && (0 == c.Salt && (0 == c.Mark && (0 == c.Features && (0 == c.Version && 0 == c.Length))))))))))))))) (cCheck.L (1) v) (cCheck.L (cFine c) v)) (cond (c.Kind == 8) (Ob ((0 : Int) ≤ (0 : Int) ∧ 0 < (↑(List.length (gFeat c)) : Int)) ∧ (cond (!(c.Kind == c.Kind && (0 == c.Update.WinSize && (0 == c.Update.WinOffset && (0 == c.Update.Interval && (0 == c.Update.Latency && (0 == c.Update.Timeout && (0 == c.Map && (0 == c.Instant && (0 == c.Reason && (0 == c.Rejected && (0 == c.Salt && (0 == c.Mark && (List.getD (gFeat c) (Int.toNat 0) 0 == c.Features && (0 == c.Version && 0 == c.Length))))))))))))))) (cCheck.L (1) v) (cCheck.L (cFine c) v))) (cond (c.Kind == 9) (Ob ((0 : Int) ≤ (0 : Int) ∧ 0 < (↑(List.length (gFeat c)) : Int)) ∧ (cond (!(c.Kind == c.Kind && (0 == c.Update.WinSize && (0 == c.Update.WinOffset && (0 == c.Update.Interval && (0 == c.Update.Latency && (0 == c.Update.Timeout && (0 == c.Map && (0 == c.Instant && (0 == c.Reason && (0 == c.Rejected && (0 == c.Salt && (0 == c.Mark && (List.getD (gFeat c) (Int.toNat 0) 0 == c.Features && (0 == c.Version && 0 == c.Length))))))))))))))) (cCheck.L (1) v) (cCheck.L (cFine c) v))) (cond (c.Kind == 20) (Ob ((0 : Int) ≤ (0 : Int) ∧ 0 < (↑(List.length (gLen c)) : Int)) ∧ (cond (!(c.Kind == c.Kind && (0 == c.Update.WinSize && (0 == c.Update.WinOffset && (0 == c.Update.Interval && (0 == c.Update.Latency && (0 == c.Update.Timeout && (0 == c.Map && (0 == c.Instant && (0 == c.Reason && (0 == c.Rejected && (0 == c.Salt && (0 == c.Mark && (0 == c.Features && (0 == c.Version && IntKind.wrap IntKind.i64 (List.getD (gLen c) (Int.toNat 0) 0) == c.Length))))))))))))))) (cCheck.L (1) v) (cCheck.L (cIn c.Length 27 251) v))) (cond (c.Kind == 21) (Ob ((0 : Int) ≤ (0 : Int) ∧ 0 < (↑(List.length (gLen c)) : Int)) ∧ (cond (!(c.Kind == c.Kind && (0 == c.Update.WinSize && (0 == c.Update.WinOffset && (0 == c.Update.Interval && (0 == c.Update.Latency && (0 == c.Update.Timeout && (0 == c.Map && (0 == c.Instant && (0 == c.Reason && (0 == c.Rejected && (0 == c.Salt && (0 == c.Mark && (0 == c.Features && (0 == c.Version && IntKind.wrap IntKind.i64 (List.getD (gLen c) (Int.toNat 0) 0) == c.Length))))))))))))))) (cCheck.L (1) v) (cCheck.L (cIn c.Length 27 251) v))) (cond (c.Kind == 0) (Ob ((5 : Nat) ≤ List.length (gUpdate c)) ∧ (Ob ((0 : Int) ≤ (5 : Int) ∧ 5 < (↑(List.length (gUpdate c)) : Int)) ∧ (cond (!(c.Kind == c.Kind && ((cUpdated (gUpdate c)).WinSize == c.Update.WinSize && ((cUpdated (gUpdate c)).WinOffset == c.Update.WinOffset && ((cUpdated (gUpdate c)).Interval == c.Update.Interval && ((cUpdated (gUpdate c)).Latency == c.Update.Latency && ((cUpdated (gUpdate c)).Timeout == c.Update.Timeout && (0 == c.Map && (IntKind.wrap IntKind.u16 (List.getD (gUpdate c) (Int.toNat 5) 0) == c.Instant && (0 == c.Reason && (0 == c.Rejected && (0 == c.Salt && (0 == c.Mark && (0 == c.Features && (0 == c.Version && 0 == c.Length))))))))))))))) (cCheck.L (1) v) (cCheck.L (cCheckUpdate c.Update) v)))) (cond (c.Kind == 1) (Ob ((0 : Int) ≤ (0 : Int) ∧ 0 < (↑(List.length (gMap c)) : Int)) ∧ (Ob ((0 : Int) ≤ (1 : Int) ∧ 1 < (↑(List.length (gMap c)) : Int)) ∧ (cond (!(c.Kind == c.Kind && (0 == c.Update.WinSize && (0 == c.Update.WinOffset && (0 == c.Update.Interval && (0 == c.Update.Latency && (0 == c.Update.Timeout && (List.getD (gMap c) (Int.toNat 0) 0 == c.Map && (IntKind.wrap IntKind.u16 (List.getD (gMap c) (Int.toNat 1) 0) == c.Instant && (0 == c.Reason && (0 == c.Rejected && (0 == c.Salt && (0 == c.Mark && (0 == c.Features && (0 == c.Version && 0 == c.Length))))))))))))))) (cCheck.L (1) v) (cCheck.L (kCheck c.Map) v)))) (cond (c.Kind == 15) (Ob ((5 : Nat) ≤ List.length (gParams c)) ∧ (cond (!(c.Kind == c.Kind && ((cUpdated (gParams c)).WinSize == c.Update.WinSize && ((cUpdated (gParams c)).WinOffset == c.Update.WinOffset && ((cUpdated (gParams c)).Interval == c.Update.Interval && ((cUpdated (gParams c)).Latency == c.Update.Latency && ((cUpdated (gParams c)).Timeout == c.Update.Timeout && (0 == c.Map && (0 == c.Instant && (0 == c.Reason && (0 == c.Rejected && (0 == c.Salt && (0 == c.Mark && (0 == c.Features && (0 == c.Version && 0 == c.Length))))))))))))))) (cCheck.L (1) v) (cCheck.L (cCheckUpdate c.Update) v))) (cond (c.Kind == 2) (Ob ((0 : Int) ≤ (0 : Int) ∧ 0 < (↑(List.length (gTerm c)) : Int)) ∧ (cond (!(c.Kind == c.Kind && (0 == c.Update.WinSize && (0 == c.Update.WinOffset && (0 == c.Update.Interval && (0 == c.Update.Latency && (0 == c.Update.Timeout && (0 == c.Map && (0 == c.Instant && (IntKind.wrap IntKind.i64 (List.getD (gTerm c) (Int.toNat 0) 0) == c.Reason && (0 == c.Rejected && (0 == c.Salt && (0 == c.Mark && (0 == c.Features && (0 == c.Version && 0 == c.Length))))))))))))))) (cCheck.L (1) v) (cCheck.L (cIn c.Reason 0 255) v))) (cond (c.Kind == 3) (Ob ((0 : Int) ≤ (0 : Int) ∧ 0 < (↑(List.length (gEncrypt c)) : Int)) ∧ (Ob ((0 : Int) ≤ (1 : Int) ∧ 1 < (↑(List.length (gEncrypt c)) : Int)) ∧ (cond (!(c.Kind == c.Kind && (0 == c.Update.WinSize && (0 == c.Update.WinOffset && (0 == c.Update.Interval && (0 == c.Update.Latency && (0 == c.Update.Timeout && (0 == c.Map && (0 == c.Instant && (0 == c.Reason && (0 == c.Rejected && (List.getD (gEncrypt c) (Int.toNat 0) 0 == c.Salt && (List.getD (gEncrypt c) (Int.toNat 1) 0 == c.Mark && (0 == c.Features && (0 == c.Version && 0 == c.Length))))))))))))))) (cCheck.L (1) v) (cCheck.L (cFine c) v)))) (cond (c.Kind == 4) (Ob ((0 : Int) ≤ (0 : Int) ∧ 0 < (↑(List.length (gEncAns c)) : Int)) ∧ (cond (!(c.Kind == c.Kind && (0 == c.Update.WinSize && (0 == c.Update.WinOffset && (0 == c.Update.Interval && (0 == c.Update.Latency && (0 == c.Update.Timeout && (0 == c.Map && (0 == c.Instant && (0 == c.Reason && (0 == c.Rejected && (List.getD (gEncAns c) (Int.toNat 0) 0 == c.Salt && (0 == c.Mark && (0 == c.Features && (0 == c.Version && 0 == c.Length))))))))))))))) (cCheck.L (1) v) (cCheck.L (cFine c) v))) (cond (c.Kind == 7) (Ob ((0 : Int) ≤ (0 : Int) ∧ 0 < (↑(List.length (gUnknown c)) : Int)) ∧ (cond (!(c.Kind == c.Kind && (0 == c.Update.WinSize && (0 == c.Update.WinOffset && (0 == c.Update.Interval && (0 == c.Update.Latency && (0 == c.Update.Timeout && (0 == c.Map && (0 == c.Instant && (0 == c.Reason && (IntKind.wrap IntKind.i64 (List.getD (gUnknown c) (Int.toNat 0) 0) == c.Rejected && (0 == c.Salt && (0 == c.Mark && (0 == c.Features && (0 == c.Version && 0 == c.Length))))))))))))))) (cCheck.L (1) v) (cCheck.L (cIn c.Rejected 0 255) v))) (cond (c.Kind == 12) (Ob ((0 : Int) ≤ (0 : Int) ∧ 0 < (↑(List.length (gVersion c)) : Int)) ∧ (cond (!(c.Kind == c.Kind && (0 == c.Update.WinSize && (0 == c.Update.WinOffset && (0 == c.Update.Interval && (0 == c.Update.Latency && (0 == c.Update.Timeout && (0 == c.Map && (0 == c.Instant && (0 == c.Reason && (0 == c.Rejected && (0 == c.Salt && (0 == c.Mark && (0 == c.Features && (IntKind.wrap IntKind.i64 (List.getD (gVersion c) (Int.toNat 0) 0) == c.Version && 0 == c.Length))))))))))))))) (cCheck.L (1) v) (cCheck.L (cIn c.Version 0 255) v))) (cond (c.Kind == 13) (Ob ((0 : Int) ≤ (0 : Int) ∧ 0 < (↑(List.length (gReject c)) : Int)) ∧ (Ob ((0 : Int) ≤ (1 : Int) ∧ 1 < (↑(List.length (gReject c)) : Int)) ∧ (cond (!(c.Kind == c.Kind && (0 == c.Update.WinSize && (0 == c.Update.WinOffset && (0 == c.Update.Interval && (0 == c.Update.Latency && (0 == c.Update.Timeout && (0 == c.Map && (0 == c.Instant && (IntKind.wrap IntKind.i64 (List.getD (gReject c) (Int.toNat 0) 0) == c.Reason && (IntKind.wrap IntKind.i64 (List.getD (gReject c) (Int.toNat 1) 0) == c.Rejected && (0 == c.Salt && (0 == c.Mark && (0 == c.Features && (0 == c.Version && 0 == c.Length))))))))))))))) (cCheck.L (1) v) (cCheck.L (maxI (cIn c.Reason 0 255) (cIn c.Rejected 0 255)) v)))) (cCheck.L (12) v)))))))))))))))))
theorem cCheck.nf_ok (c : Control) (v : Int) : evFun (mkCx Try.prog S tab_r26TakeUpdate 0) 4 14 [Control.av c] [] (fun r' H' => Gives r' H' (cCheck.res v) (cCheck.news v)) = cCheck.nf c v := by kernel_rfl
theorem cCheck.key (c : Control) (v : Int) (hv : v = cCheck c) : cCheck.nf c v := by
  unfold cCheck at hv
  unfold cCheck.nf
  revert hv; refine by_cond2 (fun hb hv => ?_) (fun hb hv => ?_)
  revert hv; refine by_cond2 (fun hb hv => ?_) (fun hb hv => ?_)
  subst hv; exact ⟨rfl, rfl⟩
  subst hv; exact ⟨rfl, rfl⟩
  revert hv; refine by_cond2 (fun hb hv => ?_) (fun hb hv => ?_)
  revert hv; refine by_cond2 (fun hb hv => ?_) (fun hb hv => ?_)
  subst hv; exact ⟨rfl, rfl⟩
  subst hv; exact ⟨rfl, rfl⟩
  revert hv; refine by_cond2 (fun hb hv => ?_) (fun hb hv => ?_)
  revert hv; refine by_cond2 (fun hb hv => ?_) (fun hb hv => ?_)
  subst hv; exact ⟨rfl, rfl⟩
  subst hv; exact ⟨rfl, rfl⟩
  revert hv; refine by_cond2 (fun hb hv => ?_) (fun hb hv => ?_)
  revert hv; refine by_cond2 (fun hb hv => ?_) (fun hb hv => ?_)
  subst hv; exact ⟨rfl, rfl⟩
  subst hv; exact ⟨rfl, rfl⟩
  revert hv; refine by_cond2 (fun hb hv => ?_) (fun hb hv => ?_)
  refine ⟨⟨?_⟩, ?_⟩; rotate_left
  revert hv; refine by_cond2 (fun hb hv => ?_) (fun hb hv => ?_)
  subst hv; exact ⟨rfl, rfl⟩
  subst hv; exact ⟨rfl, rfl⟩
  revert hv; refine by_cond2 (fun hb hv => ?_) (fun hb hv => ?_)
  refine ⟨⟨?_⟩, ?_⟩; rotate_left
  revert hv; refine by_cond2 (fun hb hv => ?_) (fun hb hv => ?_)
  subst hv; exact ⟨rfl, rfl⟩
  subst hv; exact ⟨rfl, rfl⟩
  revert hv; refine by_cond2 (fun hb hv => ?_) (fun hb hv => ?_)
  refine ⟨⟨?_⟩, ?_⟩; rotate_left
  revert hv; refine by_cond2 (fun hb hv => ?_) (fun hb hv => ?_)
  subst hv; exact ⟨rfl, rfl⟩
  subst hv; exact ⟨rfl, rfl⟩
  revert hv; refine by_cond2 (fun hb hv => ?_) (fun hb hv => ?_)
  refine ⟨⟨?_⟩, ?_⟩; rotate_left
  revert hv; refine by_cond2 (fun hb hv => ?_) (fun hb hv => ?_)
  subst hv; exact ⟨rfl, rfl⟩
  subst hv; exact ⟨rfl, rfl⟩
  revert hv; refine by_cond2 (fun hb hv => ?_) (fun hb hv => ?_)
  refine ⟨⟨?_⟩, ?_⟩; rotate_left
  refine ⟨⟨?_⟩, ?_⟩; rotate_left
  revert hv; refine by_cond2 (fun hb hv => ?_) (fun hb hv => ?_)
  subst hv; exact ⟨rfl, rfl⟩
  subst hv; exact ⟨rfl, rfl⟩
  revert hv; refine by_cond2 (fun hb hv => ?_) (fun hb hv => ?_)
  refine ⟨⟨?_⟩, ?_⟩; rotate_left
  refine ⟨⟨?_⟩, ?_⟩; rotate_left
  revert hv; refine by_cond2 (fun hb hv => ?_) (fun hb hv => ?_)
  subst hv; exact ⟨rfl, rfl⟩
  subst hv; exact ⟨rfl, rfl⟩
  revert hv; refine by_cond2 (fun hb hv => ?_) (fun hb hv => ?_)
  refine ⟨⟨?_⟩, ?_⟩; rotate_left
  revert hv; refine by_cond2 (fun hb hv => ?_) (fun hb hv => ?_)
  subst hv; exact ⟨rfl, rfl⟩
  subst hv; exact ⟨rfl, rfl⟩
  revert hv; refine by_cond2 (fun hb hv => ?_) (fun hb hv => ?_)
  refine ⟨⟨?_⟩, ?_⟩; rotate_left
  revert hv; refine by_cond2 (fun hb hv => ?_) (fun hb hv => ?_)
  subst hv; exact ⟨rfl, rfl⟩
  subst hv; exact ⟨rfl, rfl⟩
  revert hv; refine by_cond2 (fun hb hv => ?_) (fun hb hv => ?_)
  refine ⟨⟨?_⟩, ?_⟩; rotate_left
  refine ⟨⟨?_⟩, ?_⟩; rotate_left
  revert hv; refine by_cond2 (fun hb hv => ?_) (fun hb hv => ?_)
  subst hv; exact ⟨rfl, rfl⟩
  subst hv; exact ⟨rfl, rfl⟩
  revert hv; refine by_cond2 (fun hb hv => ?_) (fun hb hv => ?_)
  refine ⟨⟨?_⟩, ?_⟩; rotate_left
  revert hv; refine by_cond2 (fun hb hv => ?_) (fun hb hv => ?_)
  subst hv; exact ⟨rfl, rfl⟩
  subst hv; exact ⟨rfl, rfl⟩
  revert hv; refine by_cond2 (fun hb hv => ?_) (fun hb hv => ?_)
  refine ⟨⟨?_⟩, ?_⟩; rotate_left
  revert hv; refine by_cond2 (fun hb hv => ?_) (fun hb hv => ?_)
  subst hv; exact ⟨rfl, rfl⟩
  subst hv; exact ⟨rfl, rfl⟩
  revert hv; refine by_cond2 (fun hb hv => ?_) (fun hb hv => ?_)
  refine ⟨⟨?_⟩, ?_⟩; rotate_left
  revert hv; refine by_cond2 (fun hb hv => ?_) (fun hb hv => ?_)
  subst hv; exact ⟨rfl, rfl⟩
  subst hv; exact ⟨rfl, rfl⟩
  revert hv; refine by_cond2 (fun hb hv => ?_) (fun hb hv => ?_)
  refine ⟨⟨?_⟩, ?_⟩; rotate_left
  refine ⟨⟨?_⟩, ?_⟩; rotate_left
  revert hv; refine by_cond2 (fun hb hv => ?_) (fun hb hv => ?_)
  subst hv; exact ⟨rfl, rfl⟩
  subst hv; exact ⟨rfl, rfl⟩
  subst hv; exact ⟨rfl, rfl⟩
  all_goals ((try clear hv); (try clear q1 q2); (try clear hk); (first | omega | (simp only [cUpd, List.length_append, List.length_cons, List.length_nil] at *; omega) | (have e := eq_of_beq hb; rw [e] at hp; simp only [rs0, rs1, rs2, rs3, rs4, rs5, rs6, rs7, rs8, rs9, rs12, rs13, rs15, rs18, rs19, rs20, rs21] at hp; (repeat rw [wi64 _ (by omega) (by omega)]); omega) | (simp only [gUpdate, gMap, gParams, gTerm, gEncrypt, gEncAns, gUnknown, gVersion, gReject, gPlain, gFeat, gLen, cUpd, List.length_append, List.length_cons, List.length_nil] at *; omega) | ((try simp only [decide_eq_true_eq, decide_eq_false_iff_not, Bool.not_eq_true, Bool.not_eq_false, Bool.and_eq_true, Bool.or_eq_true, Bool.not_not, cond_and, cond_or, List.length_append, List.length_cons, List.length_nil] at *); (first | done | ((first | omega | (intros; (try simp only [Bool.not_not, cond_and, cond_or, Bool.and_eq_true, decide_eq_true_eq] at *); (exact band_nn rfl _ _)) | (intros; (try simp only [Bool.not_not, cond_and, cond_or, Bool.and_eq_true, decide_eq_true_eq] at *); (exact (wu64s _).2.1)) | (intros; (try simp only [Bool.not_not, cond_and, cond_or, Bool.and_eq_true, decide_eq_true_eq] at *); (simp only [Bool.or_eq_false_iff, Bool.and_eq_false_iff, decide_eq_false_iff_not, decide_eq_true_eq, bne_iff_ne, beq_iff_eq, bne_eq_false_iff_eq, beq_eq_false_iff_ne, ne_eq, true_and] at *; omega)) | (intros; (try simp only [Bool.not_not, cond_and, cond_or, Bool.and_eq_true, decide_eq_true_eq] at *); (simp only [List.length_drop, List.length_take, List.length_append, List.length_cons, List.length_nil] at *; omega)) | (intros; (try simp only [Bool.not_not, cond_and, cond_or, Bool.and_eq_true, decide_eq_true_eq] at *); exact r1Power_ne (by omega) (by omega)) | (intros; (try simp only [Bool.not_not, cond_and, cond_or, Bool.and_eq_true, decide_eq_true_eq] at *); exact r1Power_ne (by omega) (by omega)) | (intros; omega) | (intros; simp only [sized_iff, Bool.not_not, cond_and, cond_or, Bool.and_eq_true, decide_eq_true_eq] at *; omega) | (intros; simp_all [sized_iff, Bool.not_not]; done)))))))
def cCheck.ct : Ct El := ctOf cCheck.dec (fun _ => []) (fun x => cCheck.res (cCheck x)) (fun x => cCheck.news (cCheck x))
theorem cCheck.ok : CtOk (mkCx Try.prog S [] 0) 14 cCheck.ct := ct_mk (C := (mkCx Try.prog S tab_r26TakeUpdate 0)) (mkCx_ok sigOk mixed tab_r26TakeUpdate_ok 0) cCheck.dec_ok (fun x => rfl) 4 (fun x _ => (cCheck.nf_ok x _).mpr (cCheck.key x _ rfl))
def tab_cCheck : List (FuncId × Ct El) := (14, cCheck.ct) :: tab_r26taken
theorem tab_cCheck_ok : TabOk Try.prog S tab_cCheck := ⟨cCheck.ok, by kernel_rfl, tab_r26taken_ok⟩

end Go.Aw.W
