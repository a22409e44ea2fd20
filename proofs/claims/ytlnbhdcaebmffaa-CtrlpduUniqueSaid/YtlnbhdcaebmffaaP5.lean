/- The kinds of control PDUs in one table: sizes and values of their fields (printed by gen26.py). -/
import Derived.Test.YtlnbhdcaebmffaaP4
set_option linter.unusedVariables false
set_option linter.unusedSimpArgs false
set_option maxRecDepth 8000
namespace Go.Aw.W
open Go Go.Aw Go.Proofs
def szK (k : Int) : List Int := cond (k == 0) ([1, 2, 2, 2, 2, 2]) (cond (k == 1) ([5, 2]) (cond (k == 2) ([1]) (cond (k == 3) ([8, 8]) (cond (k == 4) ([8]) (cond (k == 5) ([]) (cond (k == 6) ([]) (cond (k == 7) ([1]) (cond (k == 8) ([8]) (cond (k == 9) ([8]) (cond (k == 12) ([1]) (cond (k == 13) ([1, 1]) (cond (k == 15) ([1, 2, 2, 2, 2]) (cond (k == 18) ([]) (cond (k == 19) ([]) (cond (k == 20) ([1]) (cond (k == 21) ([1]) ([])))))))))))))))))
def valK (c : Control) : List Int := cond (c.Kind == 0) ([IntKind.wrap .u64 c.Update.WinSize, IntKind.wrap .u64 c.Update.WinOffset, IntKind.wrap .u64 c.Update.Interval, IntKind.wrap .u64 c.Update.Latency, IntKind.wrap .u64 c.Update.Timeout, IntKind.wrap .u64 c.Instant]) (cond (c.Kind == 1) ([c.Map, IntKind.wrap .u64 c.Instant]) (cond (c.Kind == 2) ([IntKind.wrap .u64 c.Reason]) (cond (c.Kind == 3) ([c.Salt, c.Mark]) (cond (c.Kind == 4) ([c.Salt]) (cond (c.Kind == 5) ([]) (cond (c.Kind == 6) ([]) (cond (c.Kind == 7) ([IntKind.wrap .u64 c.Rejected]) (cond (c.Kind == 8) ([c.Features]) (cond (c.Kind == 9) ([c.Features]) (cond (c.Kind == 12) ([IntKind.wrap .u64 c.Version]) (cond (c.Kind == 13) ([IntKind.wrap .u64 c.Reason, IntKind.wrap .u64 c.Rejected]) (cond (c.Kind == 15) ([IntKind.wrap .u64 c.Update.WinSize, IntKind.wrap .u64 c.Update.WinOffset, IntKind.wrap .u64 c.Update.Interval, IntKind.wrap .u64 c.Update.Latency, IntKind.wrap .u64 c.Update.Timeout]) (cond (c.Kind == 18) ([]) (cond (c.Kind == 19) ([]) (cond (c.Kind == 20) ([IntKind.wrap .u64 c.Length]) (cond (c.Kind == 21) ([IntKind.wrap .u64 c.Length]) ([])))))))))))))))))
def setK (k : Int) (l : List Int) : Control := cond (k == 0) (⟨0, ⟨IntKind.wrap .i64 (l.getD 0 0), IntKind.wrap .i64 (l.getD 1 0), IntKind.wrap .i64 (l.getD 2 0), IntKind.wrap .i64 (l.getD 3 0), IntKind.wrap .i64 (l.getD 4 0)⟩, 0, IntKind.wrap .u16 (l.getD 5 0), 0, 0, 0, 0, 0, 0, 0⟩) (cond (k == 1) (⟨1, ⟨0, 0, 0, 0, 0⟩, l.getD 0 0, IntKind.wrap .u16 (l.getD 1 0), 0, 0, 0, 0, 0, 0, 0⟩) (cond (k == 2) (⟨2, ⟨0, 0, 0, 0, 0⟩, 0, 0, IntKind.wrap .i64 (l.getD 0 0), 0, 0, 0, 0, 0, 0⟩) (cond (k == 3) (⟨3, ⟨0, 0, 0, 0, 0⟩, 0, 0, 0, 0, l.getD 0 0, l.getD 1 0, 0, 0, 0⟩) (cond (k == 4) (⟨4, ⟨0, 0, 0, 0, 0⟩, 0, 0, 0, 0, l.getD 0 0, 0, 0, 0, 0⟩) (cond (k == 5) (⟨5, ⟨0, 0, 0, 0, 0⟩, 0, 0, 0, 0, 0, 0, 0, 0, 0⟩) (cond (k == 6) (⟨6, ⟨0, 0, 0, 0, 0⟩, 0, 0, 0, 0, 0, 0, 0, 0, 0⟩) (cond (k == 7) (⟨7, ⟨0, 0, 0, 0, 0⟩, 0, 0, 0, IntKind.wrap .i64 (l.getD 0 0), 0, 0, 0, 0, 0⟩) (cond (k == 8) (⟨8, ⟨0, 0, 0, 0, 0⟩, 0, 0, 0, 0, 0, 0, l.getD 0 0, 0, 0⟩) (cond (k == 9) (⟨9, ⟨0, 0, 0, 0, 0⟩, 0, 0, 0, 0, 0, 0, l.getD 0 0, 0, 0⟩) (cond (k == 12) (⟨12, ⟨0, 0, 0, 0, 0⟩, 0, 0, 0, 0, 0, 0, 0, IntKind.wrap .i64 (l.getD 0 0), 0⟩) (cond (k == 13) (⟨13, ⟨0, 0, 0, 0, 0⟩, 0, 0, IntKind.wrap .i64 (l.getD 0 0), IntKind.wrap .i64 (l.getD 1 0), 0, 0, 0, 0, 0⟩) (cond (k == 15) (⟨15, ⟨IntKind.wrap .i64 (l.getD 0 0), IntKind.wrap .i64 (l.getD 1 0), IntKind.wrap .i64 (l.getD 2 0), IntKind.wrap .i64 (l.getD 3 0), IntKind.wrap .i64 (l.getD 4 0)⟩, 0, 0, 0, 0, 0, 0, 0, 0, 0⟩) (cond (k == 18) (⟨18, ⟨0, 0, 0, 0, 0⟩, 0, 0, 0, 0, 0, 0, 0, 0, 0⟩) (cond (k == 19) (⟨19, ⟨0, 0, 0, 0, 0⟩, 0, 0, 0, 0, 0, 0, 0, 0, 0⟩) (cond (k == 20) (⟨20, ⟨0, 0, 0, 0, 0⟩, 0, 0, 0, 0, 0, 0, 0, 0, IntKind.wrap .i64 (l.getD 0 0)⟩) (cond (k == 21) (⟨21, ⟨0, 0, 0, 0, 0⟩, 0, 0, 0, 0, 0, 0, 0, 0, IntKind.wrap .i64 (l.getD 0 0)⟩) (Control.zero)))))))))))))))))
def chkK (c : Control) : Int := cond (c.Kind == 0) (cCheckUpdate c.Update) (cond (c.Kind == 1) (kCheck c.Map) (cond (c.Kind == 2) (cIn c.Reason 0 255) (cond (c.Kind == 3) (0) (cond (c.Kind == 4) (0) (cond (c.Kind == 5) (0) (cond (c.Kind == 6) (0) (cond (c.Kind == 7) (cIn c.Rejected 0 255) (cond (c.Kind == 8) (0) (cond (c.Kind == 9) (0) (cond (c.Kind == 12) (cIn c.Version 0 255) (cond (c.Kind == 13) (maxI (cIn c.Reason 0 255) (cIn c.Rejected 0 255)) (cond (c.Kind == 15) (cCheckUpdate c.Update) (cond (c.Kind == 18) (0) (cond (c.Kind == 19) (0) (cond (c.Kind == 20) (cIn c.Length 27 251) (cond (c.Kind == 21) (cIn c.Length 27 251) (12)))))))))))))))))
def refK (c : Control) : Int := cond (c.Kind == 0) (cond (r17CheckUpdate c.Update != 0) (r17CheckUpdate c.Update) (cond (bif bif bif !r26isByte c.Reason then true else !r26isByte c.Rejected then true else !r26isByte c.Version then true else bif false then bif decide (c.Length < (27 : Int)) then true else decide ((251 : Int) < c.Length) else false) ((5 : Int)) ((0 : Int)))) (cond (c.Kind == 1) (cond (r12Check c.Map != 0) (r12Check c.Map) (cond (bif bif bif !r26isByte c.Reason then true else !r26isByte c.Rejected then true else !r26isByte c.Version then true else bif false then bif decide (c.Length < (27 : Int)) then true else decide ((251 : Int) < c.Length) else false) ((5 : Int)) ((0 : Int)))) (cond (c.Kind == 2) (cond (bif bif bif !r26isByte c.Reason then true else !r26isByte c.Rejected then true else !r26isByte c.Version then true else bif false then bif decide (c.Length < (27 : Int)) then true else decide ((251 : Int) < c.Length) else false) ((5 : Int)) ((0 : Int))) (cond (c.Kind == 3) (cond (bif bif bif !r26isByte c.Reason then true else !r26isByte c.Rejected then true else !r26isByte c.Version then true else bif false then bif decide (c.Length < (27 : Int)) then true else decide ((251 : Int) < c.Length) else false) ((5 : Int)) ((0 : Int))) (cond (c.Kind == 4) (cond (bif bif bif !r26isByte c.Reason then true else !r26isByte c.Rejected then true else !r26isByte c.Version then true else bif false then bif decide (c.Length < (27 : Int)) then true else decide ((251 : Int) < c.Length) else false) ((5 : Int)) ((0 : Int))) (cond (c.Kind == 5) (cond (bif bif bif !r26isByte c.Reason then true else !r26isByte c.Rejected then true else !r26isByte c.Version then true else bif false then bif decide (c.Length < (27 : Int)) then true else decide ((251 : Int) < c.Length) else false) ((5 : Int)) ((0 : Int))) (cond (c.Kind == 6) (cond (bif bif bif !r26isByte c.Reason then true else !r26isByte c.Rejected then true else !r26isByte c.Version then true else bif false then bif decide (c.Length < (27 : Int)) then true else decide ((251 : Int) < c.Length) else false) ((5 : Int)) ((0 : Int))) (cond (c.Kind == 7) (cond (bif bif bif !r26isByte c.Reason then true else !r26isByte c.Rejected then true else !r26isByte c.Version then true else bif false then bif decide (c.Length < (27 : Int)) then true else decide ((251 : Int) < c.Length) else false) ((5 : Int)) ((0 : Int))) (cond (c.Kind == 8) (cond (bif bif bif !r26isByte c.Reason then true else !r26isByte c.Rejected then true else !r26isByte c.Version then true else bif false then bif decide (c.Length < (27 : Int)) then true else decide ((251 : Int) < c.Length) else false) ((5 : Int)) ((0 : Int))) (cond (c.Kind == 9) (cond (bif bif bif !r26isByte c.Reason then true else !r26isByte c.Rejected then true else !r26isByte c.Version then true else bif false then bif decide (c.Length < (27 : Int)) then true else decide ((251 : Int) < c.Length) else false) ((5 : Int)) ((0 : Int))) (cond (c.Kind == 12) (cond (bif bif bif !r26isByte c.Reason then true else !r26isByte c.Rejected then true else !r26isByte c.Version then true else bif false then bif decide (c.Length < (27 : Int)) then true else decide ((251 : Int) < c.Length) else false) ((5 : Int)) ((0 : Int))) (cond (c.Kind == 13) (cond (bif bif bif !r26isByte c.Reason then true else !r26isByte c.Rejected then true else !r26isByte c.Version then true else bif false then bif decide (c.Length < (27 : Int)) then true else decide ((251 : Int) < c.Length) else false) ((5 : Int)) ((0 : Int))) (cond (c.Kind == 15) (cond (r17CheckUpdate c.Update != 0) (r17CheckUpdate c.Update) (cond (bif bif bif !r26isByte c.Reason then true else !r26isByte c.Rejected then true else !r26isByte c.Version then true else bif false then bif decide (c.Length < (27 : Int)) then true else decide ((251 : Int) < c.Length) else false) ((5 : Int)) ((0 : Int)))) (cond (c.Kind == 18) (cond (bif bif bif !r26isByte c.Reason then true else !r26isByte c.Rejected then true else !r26isByte c.Version then true else bif false then bif decide (c.Length < (27 : Int)) then true else decide ((251 : Int) < c.Length) else false) ((5 : Int)) ((0 : Int))) (cond (c.Kind == 19) (cond (bif bif bif !r26isByte c.Reason then true else !r26isByte c.Rejected then true else !r26isByte c.Version then true else bif false then bif decide (c.Length < (27 : Int)) then true else decide ((251 : Int) < c.Length) else false) ((5 : Int)) ((0 : Int))) (cond (c.Kind == 20) (cond (bif bif bif !r26isByte c.Reason then true else !r26isByte c.Rejected then true else !r26isByte c.Version then true else bif true then bif decide (c.Length < (27 : Int)) then true else decide ((251 : Int) < c.Length) else false) ((5 : Int)) ((0 : Int))) (cond (c.Kind == 21) (cond (bif bif bif !r26isByte c.Reason then true else !r26isByte c.Rejected then true else !r26isByte c.Version then true else bif true then bif decide (c.Length < (27 : Int)) then true else decide ((251 : Int) < c.Length) else false) ((5 : Int)) ((0 : Int))) (12)))))))))))))))))
def zipF (sizes l : List Int) : List Field := List.zipWith (fun s v => (⟨s, v⟩ : Field)) sizes l
def eqC (x y : Control) : Bool := x.Kind == y.Kind && (x.Update.WinSize == y.Update.WinSize && (x.Update.WinOffset == y.Update.WinOffset && (x.Update.Interval == y.Update.Interval && (x.Update.Latency == y.Update.Latency && (x.Update.Timeout == y.Update.Timeout && (x.Map == y.Map && (x.Instant == y.Instant && (x.Reason == y.Reason && (x.Rejected == y.Rejected && (x.Salt == y.Salt && (x.Mark == y.Mark && (x.Features == y.Features && (x.Version == y.Version && x.Length == y.Length)))))))))))))
theorem eqC_iff (x y : Control) : (eqC x y = true) = (x = y) := by
  obtain ⟨k, ⟨a, b, c, d, e⟩, m, i, r, j, s, q, f, v, l⟩ := x
  obtain ⟨k', ⟨a', b', c', d', e'⟩, m', i', r', j', s', q', f', v', l'⟩ := y
  simp only [eqC, Bool.and_eq_true, beq_iff_eq, Control.mk.injEq, Update.mk.injEq]
  refine propext ⟨fun h => ?_, fun h => ?_⟩
  · obtain ⟨h1, h2, h3, h4, h5, h6, h7, h8, h9, h10, h11, h12, h13, h14, h15⟩ := h
    exact ⟨h1, ⟨h2, h3, h4, h5, h6⟩, h7, h8, h9, h10, h11, h12, h13, h14, h15⟩
  · obtain ⟨h1, ⟨h2, h3, h4, h5, h6⟩, h7, h8, h9, h10, h11, h12, h13, h14, h15⟩ := h
    exact ⟨h1, h2, h3, h4, h5, h6, h7, h8, h9, h10, h11, h12, h13, h14, h15⟩
theorem w64 {a : Int} (h : IntKind.has .i64 a) : IntKind.wrap .i64 (IntKind.wrap .u64 a) = a := by
  simp [IntKind.has, IntKind.min, IntKind.max, IntKind.bits, IntKind.signed] at h
  simp [IntKind.wrap, IntKind.bits, IntKind.signed]; omega
theorem w16 {a : Int} (h : IntKind.has .u16 a) : IntKind.wrap .u16 (IntKind.wrap .u64 a) = a := by
  simp [IntKind.has, IntKind.min, IntKind.max, IntKind.bits, IntKind.signed] at h
  rw [wu16m, wu64m]; omega
theorem isByte_eq (n : Int) : r26isByte n = !(bif decide (n < 0) then true else decide (255 < n)) := by
  unfold r26isByte
  by_cases h0 : n < 0
  · rw [decide_eq_true h0, decide_eq_false (by omega)]; rfl
  · rw [decide_eq_false h0, decide_eq_true (by omega)]
    by_cases h1 : 255 < n
    · rw [decide_eq_true h1, decide_eq_false (by omega)]; rfl
    · rw [decide_eq_false h1, decide_eq_true (by omega)]; rfl
theorem cond_self0 (t : Int) : cond (t != 0) t 0 = t := by
  by_cases h : t = 0
  · subst h; rfl
  · rw [show (t != 0) = true by simp [h]]; rfl
section
variable (a b c d e m i r j s k f v l : Int)
theorem ck0 : cCheck ⟨0, ⟨a, b, c, d, e⟩, m, i, r, j, s, k, f, v, l⟩ = cond (!(eqC (setK 0 (valK ⟨0, ⟨a, b, c, d, e⟩, m, i, r, j, s, k, f, v, l⟩)) ⟨0, ⟨a, b, c, d, e⟩, m, i, r, j, s, k, f, v, l⟩)) 1 (chkK ⟨0, ⟨a, b, c, d, e⟩, m, i, r, j, s, k, f, v, l⟩) := by kernel_rfl
theorem rk0 : r26Check ⟨0, ⟨a, b, c, d, e⟩, m, i, r, j, s, k, f, v, l⟩ = cond (!(eqC (r26rest ⟨0, ⟨a, b, c, d, e⟩, m, i, r, j, s, k, f, v, l⟩) Control.zero)) 1 (refK ⟨0, ⟨a, b, c, d, e⟩, m, i, r, j, s, k, f, v, l⟩) := by kernel_rfl
theorem sv0 : setK 0 (valK ⟨0, ⟨a, b, c, d, e⟩, m, i, r, j, s, k, f, v, l⟩) = ⟨0, ⟨IntKind.wrap .i64 (IntKind.wrap .u64 a), IntKind.wrap .i64 (IntKind.wrap .u64 b), IntKind.wrap .i64 (IntKind.wrap .u64 c), IntKind.wrap .i64 (IntKind.wrap .u64 d), IntKind.wrap .i64 (IntKind.wrap .u64 e)⟩, 0, IntKind.wrap .u16 (IntKind.wrap .u64 i), 0, 0, 0, 0, 0, 0, 0⟩ := by kernel_rfl
theorem rr0 : r26rest ⟨0, ⟨a, b, c, d, e⟩, m, i, r, j, s, k, f, v, l⟩ = ⟨0, ⟨0, 0, 0, 0, 0⟩, m, 0, r, j, s, k, f, v, l⟩ := by kernel_rfl
theorem ez0 (h : Control.has ⟨0, ⟨a, b, c, d, e⟩, m, i, r, j, s, k, f, v, l⟩) : eqC (setK 0 (valK ⟨0, ⟨a, b, c, d, e⟩, m, i, r, j, s, k, f, v, l⟩)) ⟨0, ⟨a, b, c, d, e⟩, m, i, r, j, s, k, f, v, l⟩ = eqC (r26rest ⟨0, ⟨a, b, c, d, e⟩, m, i, r, j, s, k, f, v, l⟩) Control.zero := by
  obtain ⟨h0, ⟨ha, hb, hc, hd, he⟩, hm, hi, hr, hj, hs, hk, hf, hv, hl⟩ := h
  rw [Bool.eq_iff_iff, eqC_iff, eqC_iff, sv0, rr0]
  rw [w64 ha, w64 hb, w64 hc, w64 hd, w64 he, w16 hi]
  show (_ = _) ↔ (_ = (⟨0, ⟨0, 0, 0, 0, 0⟩, 0, 0, 0, 0, 0, 0, 0, 0, 0⟩ : Control))
  simp only [Control.mk.injEq, Update.mk.injEq, true_and, and_true, and_self]
  omega
theorem fk0 (h : Control.has ⟨0, ⟨a, b, c, d, e⟩, m, i, r, j, s, k, f, v, l⟩) (hz : eqC (r26rest ⟨0, ⟨a, b, c, d, e⟩, m, i, r, j, s, k, f, v, l⟩) Control.zero = true) : chkK ⟨0, ⟨a, b, c, d, e⟩, m, i, r, j, s, k, f, v, l⟩ = refK ⟨0, ⟨a, b, c, d, e⟩, m, i, r, j, s, k, f, v, l⟩ := by
  rw [eqC_iff, rr0] at hz
  have hz : _ = (⟨0, ⟨0, 0, 0, 0, 0⟩, 0, 0, 0, 0, 0, 0, 0, 0, 0⟩ : Control) := hz
  simp only [Control.mk.injEq, Update.mk.injEq] at hz
  obtain rfl : r = 0 := by omega
  obtain rfl : j = 0 := by omega
  obtain rfl : v = 0 := by omega
  show cCheckUpdate ⟨a, b, c, d, e⟩ = cond (r17CheckUpdate ⟨a, b, c, d, e⟩ != 0) (r17CheckUpdate ⟨a, b, c, d, e⟩) 0
  rw [checkUpdate_eq, cond_self0]
theorem en0 : cEncode ⟨0, ⟨a, b, c, d, e⟩, m, i, r, j, s, k, f, v, l⟩ = cond (cCheck ⟨0, ⟨a, b, c, d, e⟩, m, i, r, j, s, k, f, v, l⟩ != 0) ([], cCheck ⟨0, ⟨a, b, c, d, e⟩, m, i, r, j, s, k, f, v, l⟩) (oPut (⟨1, IntKind.wrap .u64 0⟩ :: zipF (szK 0) (valK ⟨0, ⟨a, b, c, d, e⟩, m, i, r, j, s, k, f, v, l⟩))) := by kernel_rfl
theorem ck1 : cCheck ⟨1, ⟨a, b, c, d, e⟩, m, i, r, j, s, k, f, v, l⟩ = cond (!(eqC (setK 1 (valK ⟨1, ⟨a, b, c, d, e⟩, m, i, r, j, s, k, f, v, l⟩)) ⟨1, ⟨a, b, c, d, e⟩, m, i, r, j, s, k, f, v, l⟩)) 1 (chkK ⟨1, ⟨a, b, c, d, e⟩, m, i, r, j, s, k, f, v, l⟩) := by kernel_rfl
theorem rk1 : r26Check ⟨1, ⟨a, b, c, d, e⟩, m, i, r, j, s, k, f, v, l⟩ = cond (!(eqC (r26rest ⟨1, ⟨a, b, c, d, e⟩, m, i, r, j, s, k, f, v, l⟩) Control.zero)) 1 (refK ⟨1, ⟨a, b, c, d, e⟩, m, i, r, j, s, k, f, v, l⟩) := by kernel_rfl
theorem sv1 : setK 1 (valK ⟨1, ⟨a, b, c, d, e⟩, m, i, r, j, s, k, f, v, l⟩) = ⟨1, ⟨0, 0, 0, 0, 0⟩, m, IntKind.wrap .u16 (IntKind.wrap .u64 i), 0, 0, 0, 0, 0, 0, 0⟩ := by kernel_rfl
theorem rr1 : r26rest ⟨1, ⟨a, b, c, d, e⟩, m, i, r, j, s, k, f, v, l⟩ = ⟨0, ⟨a, b, c, d, e⟩, 0, 0, r, j, s, k, f, v, l⟩ := by kernel_rfl
theorem ez1 (h : Control.has ⟨1, ⟨a, b, c, d, e⟩, m, i, r, j, s, k, f, v, l⟩) : eqC (setK 1 (valK ⟨1, ⟨a, b, c, d, e⟩, m, i, r, j, s, k, f, v, l⟩)) ⟨1, ⟨a, b, c, d, e⟩, m, i, r, j, s, k, f, v, l⟩ = eqC (r26rest ⟨1, ⟨a, b, c, d, e⟩, m, i, r, j, s, k, f, v, l⟩) Control.zero := by
  obtain ⟨h0, ⟨ha, hb, hc, hd, he⟩, hm, hi, hr, hj, hs, hk, hf, hv, hl⟩ := h
  rw [Bool.eq_iff_iff, eqC_iff, eqC_iff, sv1, rr1]
  rw [w16 hi]
  show (_ = _) ↔ (_ = (⟨0, ⟨0, 0, 0, 0, 0⟩, 0, 0, 0, 0, 0, 0, 0, 0, 0⟩ : Control))
  simp only [Control.mk.injEq, Update.mk.injEq, true_and, and_true, and_self]
  omega
theorem fk1 (h : Control.has ⟨1, ⟨a, b, c, d, e⟩, m, i, r, j, s, k, f, v, l⟩) (hz : eqC (r26rest ⟨1, ⟨a, b, c, d, e⟩, m, i, r, j, s, k, f, v, l⟩) Control.zero = true) : chkK ⟨1, ⟨a, b, c, d, e⟩, m, i, r, j, s, k, f, v, l⟩ = refK ⟨1, ⟨a, b, c, d, e⟩, m, i, r, j, s, k, f, v, l⟩ := by
  rw [eqC_iff, rr1] at hz
  have hz : _ = (⟨0, ⟨0, 0, 0, 0, 0⟩, 0, 0, 0, 0, 0, 0, 0, 0, 0⟩ : Control) := hz
  simp only [Control.mk.injEq, Update.mk.injEq] at hz
  obtain rfl : r = 0 := by omega
  obtain rfl : j = 0 := by omega
  obtain rfl : v = 0 := by omega
  show kCheck m = cond (r12Check m != 0) (r12Check m) 0
  have hm := h.2.2.1
  simp [IntKind.has, IntKind.min, IntKind.max, IntKind.bits, IntKind.signed] at hm
  rw [kCheck_eq m (by omega) (by omega), cond_self0]
theorem en1 : cEncode ⟨1, ⟨a, b, c, d, e⟩, m, i, r, j, s, k, f, v, l⟩ = cond (cCheck ⟨1, ⟨a, b, c, d, e⟩, m, i, r, j, s, k, f, v, l⟩ != 0) ([], cCheck ⟨1, ⟨a, b, c, d, e⟩, m, i, r, j, s, k, f, v, l⟩) (oPut (⟨1, IntKind.wrap .u64 1⟩ :: zipF (szK 1) (valK ⟨1, ⟨a, b, c, d, e⟩, m, i, r, j, s, k, f, v, l⟩))) := by kernel_rfl
theorem ck2 : cCheck ⟨2, ⟨a, b, c, d, e⟩, m, i, r, j, s, k, f, v, l⟩ = cond (!(eqC (setK 2 (valK ⟨2, ⟨a, b, c, d, e⟩, m, i, r, j, s, k, f, v, l⟩)) ⟨2, ⟨a, b, c, d, e⟩, m, i, r, j, s, k, f, v, l⟩)) 1 (chkK ⟨2, ⟨a, b, c, d, e⟩, m, i, r, j, s, k, f, v, l⟩) := by kernel_rfl
theorem rk2 : r26Check ⟨2, ⟨a, b, c, d, e⟩, m, i, r, j, s, k, f, v, l⟩ = cond (!(eqC (r26rest ⟨2, ⟨a, b, c, d, e⟩, m, i, r, j, s, k, f, v, l⟩) Control.zero)) 1 (refK ⟨2, ⟨a, b, c, d, e⟩, m, i, r, j, s, k, f, v, l⟩) := by kernel_rfl
theorem sv2 : setK 2 (valK ⟨2, ⟨a, b, c, d, e⟩, m, i, r, j, s, k, f, v, l⟩) = ⟨2, ⟨0, 0, 0, 0, 0⟩, 0, 0, IntKind.wrap .i64 (IntKind.wrap .u64 r), 0, 0, 0, 0, 0, 0⟩ := by kernel_rfl
theorem rr2 : r26rest ⟨2, ⟨a, b, c, d, e⟩, m, i, r, j, s, k, f, v, l⟩ = ⟨0, ⟨a, b, c, d, e⟩, m, i, 0, j, s, k, f, v, l⟩ := by kernel_rfl
theorem ez2 (h : Control.has ⟨2, ⟨a, b, c, d, e⟩, m, i, r, j, s, k, f, v, l⟩) : eqC (setK 2 (valK ⟨2, ⟨a, b, c, d, e⟩, m, i, r, j, s, k, f, v, l⟩)) ⟨2, ⟨a, b, c, d, e⟩, m, i, r, j, s, k, f, v, l⟩ = eqC (r26rest ⟨2, ⟨a, b, c, d, e⟩, m, i, r, j, s, k, f, v, l⟩) Control.zero := by
  obtain ⟨h0, ⟨ha, hb, hc, hd, he⟩, hm, hi, hr, hj, hs, hk, hf, hv, hl⟩ := h
  rw [Bool.eq_iff_iff, eqC_iff, eqC_iff, sv2, rr2]
  rw [w64 hr]
  show (_ = _) ↔ (_ = (⟨0, ⟨0, 0, 0, 0, 0⟩, 0, 0, 0, 0, 0, 0, 0, 0, 0⟩ : Control))
  simp only [Control.mk.injEq, Update.mk.injEq, true_and, and_true, and_self]
  omega
theorem fk2 (h : Control.has ⟨2, ⟨a, b, c, d, e⟩, m, i, r, j, s, k, f, v, l⟩) (hz : eqC (r26rest ⟨2, ⟨a, b, c, d, e⟩, m, i, r, j, s, k, f, v, l⟩) Control.zero = true) : chkK ⟨2, ⟨a, b, c, d, e⟩, m, i, r, j, s, k, f, v, l⟩ = refK ⟨2, ⟨a, b, c, d, e⟩, m, i, r, j, s, k, f, v, l⟩ := by
  rw [eqC_iff, rr2] at hz
  have hz : _ = (⟨0, ⟨0, 0, 0, 0, 0⟩, 0, 0, 0, 0, 0, 0, 0, 0, 0⟩ : Control) := hz
  simp only [Control.mk.injEq, Update.mk.injEq] at hz
  obtain rfl : j = 0 := by omega
  obtain rfl : v = 0 := by omega
  show cond (bif decide (r < 0) then true else decide (255 < r)) 5 0 = cond (bif bif bif !r26isByte r then true else !r26isByte 0 then true else !r26isByte 0 then true else bif false then bif decide (l < (27 : Int)) then true else decide ((251 : Int) < l) else false) 5 0
  rw [isByte_eq r]
  generalize (bif decide (r < 0) then true else decide (255 < r)) = B
  cases B <;> rfl
theorem en2 : cEncode ⟨2, ⟨a, b, c, d, e⟩, m, i, r, j, s, k, f, v, l⟩ = cond (cCheck ⟨2, ⟨a, b, c, d, e⟩, m, i, r, j, s, k, f, v, l⟩ != 0) ([], cCheck ⟨2, ⟨a, b, c, d, e⟩, m, i, r, j, s, k, f, v, l⟩) (oPut (⟨1, IntKind.wrap .u64 2⟩ :: zipF (szK 2) (valK ⟨2, ⟨a, b, c, d, e⟩, m, i, r, j, s, k, f, v, l⟩))) := by kernel_rfl
theorem ck3 : cCheck ⟨3, ⟨a, b, c, d, e⟩, m, i, r, j, s, k, f, v, l⟩ = cond (!(eqC (setK 3 (valK ⟨3, ⟨a, b, c, d, e⟩, m, i, r, j, s, k, f, v, l⟩)) ⟨3, ⟨a, b, c, d, e⟩, m, i, r, j, s, k, f, v, l⟩)) 1 (chkK ⟨3, ⟨a, b, c, d, e⟩, m, i, r, j, s, k, f, v, l⟩) := by kernel_rfl
theorem rk3 : r26Check ⟨3, ⟨a, b, c, d, e⟩, m, i, r, j, s, k, f, v, l⟩ = cond (!(eqC (r26rest ⟨3, ⟨a, b, c, d, e⟩, m, i, r, j, s, k, f, v, l⟩) Control.zero)) 1 (refK ⟨3, ⟨a, b, c, d, e⟩, m, i, r, j, s, k, f, v, l⟩) := by kernel_rfl
theorem sv3 : setK 3 (valK ⟨3, ⟨a, b, c, d, e⟩, m, i, r, j, s, k, f, v, l⟩) = ⟨3, ⟨0, 0, 0, 0, 0⟩, 0, 0, 0, 0, s, k, 0, 0, 0⟩ := by kernel_rfl
theorem rr3 : r26rest ⟨3, ⟨a, b, c, d, e⟩, m, i, r, j, s, k, f, v, l⟩ = ⟨0, ⟨a, b, c, d, e⟩, m, i, r, j, 0, 0, f, v, l⟩ := by kernel_rfl
theorem ez3 (h : Control.has ⟨3, ⟨a, b, c, d, e⟩, m, i, r, j, s, k, f, v, l⟩) : eqC (setK 3 (valK ⟨3, ⟨a, b, c, d, e⟩, m, i, r, j, s, k, f, v, l⟩)) ⟨3, ⟨a, b, c, d, e⟩, m, i, r, j, s, k, f, v, l⟩ = eqC (r26rest ⟨3, ⟨a, b, c, d, e⟩, m, i, r, j, s, k, f, v, l⟩) Control.zero := by
  obtain ⟨h0, ⟨ha, hb, hc, hd, he⟩, hm, hi, hr, hj, hs, hk, hf, hv, hl⟩ := h
  rw [Bool.eq_iff_iff, eqC_iff, eqC_iff, sv3, rr3]
  show (_ = _) ↔ (_ = (⟨0, ⟨0, 0, 0, 0, 0⟩, 0, 0, 0, 0, 0, 0, 0, 0, 0⟩ : Control))
  simp only [Control.mk.injEq, Update.mk.injEq, true_and, and_true, and_self]
  omega
theorem fk3 (h : Control.has ⟨3, ⟨a, b, c, d, e⟩, m, i, r, j, s, k, f, v, l⟩) (hz : eqC (r26rest ⟨3, ⟨a, b, c, d, e⟩, m, i, r, j, s, k, f, v, l⟩) Control.zero = true) : chkK ⟨3, ⟨a, b, c, d, e⟩, m, i, r, j, s, k, f, v, l⟩ = refK ⟨3, ⟨a, b, c, d, e⟩, m, i, r, j, s, k, f, v, l⟩ := by
  rw [eqC_iff, rr3] at hz
  have hz : _ = (⟨0, ⟨0, 0, 0, 0, 0⟩, 0, 0, 0, 0, 0, 0, 0, 0, 0⟩ : Control) := hz
  simp only [Control.mk.injEq, Update.mk.injEq] at hz
  obtain rfl : r = 0 := by omega
  obtain rfl : j = 0 := by omega
  obtain rfl : v = 0 := by omega
  rfl
theorem en3 : cEncode ⟨3, ⟨a, b, c, d, e⟩, m, i, r, j, s, k, f, v, l⟩ = cond (cCheck ⟨3, ⟨a, b, c, d, e⟩, m, i, r, j, s, k, f, v, l⟩ != 0) ([], cCheck ⟨3, ⟨a, b, c, d, e⟩, m, i, r, j, s, k, f, v, l⟩) (oPut (⟨1, IntKind.wrap .u64 3⟩ :: zipF (szK 3) (valK ⟨3, ⟨a, b, c, d, e⟩, m, i, r, j, s, k, f, v, l⟩))) := by kernel_rfl
theorem ck4 : cCheck ⟨4, ⟨a, b, c, d, e⟩, m, i, r, j, s, k, f, v, l⟩ = cond (!(eqC (setK 4 (valK ⟨4, ⟨a, b, c, d, e⟩, m, i, r, j, s, k, f, v, l⟩)) ⟨4, ⟨a, b, c, d, e⟩, m, i, r, j, s, k, f, v, l⟩)) 1 (chkK ⟨4, ⟨a, b, c, d, e⟩, m, i, r, j, s, k, f, v, l⟩) := by kernel_rfl
theorem rk4 : r26Check ⟨4, ⟨a, b, c, d, e⟩, m, i, r, j, s, k, f, v, l⟩ = cond (!(eqC (r26rest ⟨4, ⟨a, b, c, d, e⟩, m, i, r, j, s, k, f, v, l⟩) Control.zero)) 1 (refK ⟨4, ⟨a, b, c, d, e⟩, m, i, r, j, s, k, f, v, l⟩) := by kernel_rfl
theorem sv4 : setK 4 (valK ⟨4, ⟨a, b, c, d, e⟩, m, i, r, j, s, k, f, v, l⟩) = ⟨4, ⟨0, 0, 0, 0, 0⟩, 0, 0, 0, 0, s, 0, 0, 0, 0⟩ := by kernel_rfl
theorem rr4 : r26rest ⟨4, ⟨a, b, c, d, e⟩, m, i, r, j, s, k, f, v, l⟩ = ⟨0, ⟨a, b, c, d, e⟩, m, i, r, j, 0, k, f, v, l⟩ := by kernel_rfl
theorem ez4 (h : Control.has ⟨4, ⟨a, b, c, d, e⟩, m, i, r, j, s, k, f, v, l⟩) : eqC (setK 4 (valK ⟨4, ⟨a, b, c, d, e⟩, m, i, r, j, s, k, f, v, l⟩)) ⟨4, ⟨a, b, c, d, e⟩, m, i, r, j, s, k, f, v, l⟩ = eqC (r26rest ⟨4, ⟨a, b, c, d, e⟩, m, i, r, j, s, k, f, v, l⟩) Control.zero := by
  obtain ⟨h0, ⟨ha, hb, hc, hd, he⟩, hm, hi, hr, hj, hs, hk, hf, hv, hl⟩ := h
  rw [Bool.eq_iff_iff, eqC_iff, eqC_iff, sv4, rr4]
  show (_ = _) ↔ (_ = (⟨0, ⟨0, 0, 0, 0, 0⟩, 0, 0, 0, 0, 0, 0, 0, 0, 0⟩ : Control))
  simp only [Control.mk.injEq, Update.mk.injEq, true_and, and_true, and_self]
  omega
theorem fk4 (h : Control.has ⟨4, ⟨a, b, c, d, e⟩, m, i, r, j, s, k, f, v, l⟩) (hz : eqC (r26rest ⟨4, ⟨a, b, c, d, e⟩, m, i, r, j, s, k, f, v, l⟩) Control.zero = true) : chkK ⟨4, ⟨a, b, c, d, e⟩, m, i, r, j, s, k, f, v, l⟩ = refK ⟨4, ⟨a, b, c, d, e⟩, m, i, r, j, s, k, f, v, l⟩ := by
  rw [eqC_iff, rr4] at hz
  have hz : _ = (⟨0, ⟨0, 0, 0, 0, 0⟩, 0, 0, 0, 0, 0, 0, 0, 0, 0⟩ : Control) := hz
  simp only [Control.mk.injEq, Update.mk.injEq] at hz
  obtain rfl : r = 0 := by omega
  obtain rfl : j = 0 := by omega
  obtain rfl : v = 0 := by omega
  rfl
theorem en4 : cEncode ⟨4, ⟨a, b, c, d, e⟩, m, i, r, j, s, k, f, v, l⟩ = cond (cCheck ⟨4, ⟨a, b, c, d, e⟩, m, i, r, j, s, k, f, v, l⟩ != 0) ([], cCheck ⟨4, ⟨a, b, c, d, e⟩, m, i, r, j, s, k, f, v, l⟩) (oPut (⟨1, IntKind.wrap .u64 4⟩ :: zipF (szK 4) (valK ⟨4, ⟨a, b, c, d, e⟩, m, i, r, j, s, k, f, v, l⟩))) := by kernel_rfl
theorem ck5 : cCheck ⟨5, ⟨a, b, c, d, e⟩, m, i, r, j, s, k, f, v, l⟩ = cond (!(eqC (setK 5 (valK ⟨5, ⟨a, b, c, d, e⟩, m, i, r, j, s, k, f, v, l⟩)) ⟨5, ⟨a, b, c, d, e⟩, m, i, r, j, s, k, f, v, l⟩)) 1 (chkK ⟨5, ⟨a, b, c, d, e⟩, m, i, r, j, s, k, f, v, l⟩) := by kernel_rfl
theorem rk5 : r26Check ⟨5, ⟨a, b, c, d, e⟩, m, i, r, j, s, k, f, v, l⟩ = cond (!(eqC (r26rest ⟨5, ⟨a, b, c, d, e⟩, m, i, r, j, s, k, f, v, l⟩) Control.zero)) 1 (refK ⟨5, ⟨a, b, c, d, e⟩, m, i, r, j, s, k, f, v, l⟩) := by kernel_rfl
theorem sv5 : setK 5 (valK ⟨5, ⟨a, b, c, d, e⟩, m, i, r, j, s, k, f, v, l⟩) = ⟨5, ⟨0, 0, 0, 0, 0⟩, 0, 0, 0, 0, 0, 0, 0, 0, 0⟩ := by kernel_rfl
theorem rr5 : r26rest ⟨5, ⟨a, b, c, d, e⟩, m, i, r, j, s, k, f, v, l⟩ = ⟨0, ⟨a, b, c, d, e⟩, m, i, r, j, s, k, f, v, l⟩ := by kernel_rfl
theorem ez5 (h : Control.has ⟨5, ⟨a, b, c, d, e⟩, m, i, r, j, s, k, f, v, l⟩) : eqC (setK 5 (valK ⟨5, ⟨a, b, c, d, e⟩, m, i, r, j, s, k, f, v, l⟩)) ⟨5, ⟨a, b, c, d, e⟩, m, i, r, j, s, k, f, v, l⟩ = eqC (r26rest ⟨5, ⟨a, b, c, d, e⟩, m, i, r, j, s, k, f, v, l⟩) Control.zero := by
  obtain ⟨h0, ⟨ha, hb, hc, hd, he⟩, hm, hi, hr, hj, hs, hk, hf, hv, hl⟩ := h
  rw [Bool.eq_iff_iff, eqC_iff, eqC_iff, sv5, rr5]
  show (_ = _) ↔ (_ = (⟨0, ⟨0, 0, 0, 0, 0⟩, 0, 0, 0, 0, 0, 0, 0, 0, 0⟩ : Control))
  simp only [Control.mk.injEq, Update.mk.injEq, true_and, and_true, and_self]
  omega
theorem fk5 (h : Control.has ⟨5, ⟨a, b, c, d, e⟩, m, i, r, j, s, k, f, v, l⟩) (hz : eqC (r26rest ⟨5, ⟨a, b, c, d, e⟩, m, i, r, j, s, k, f, v, l⟩) Control.zero = true) : chkK ⟨5, ⟨a, b, c, d, e⟩, m, i, r, j, s, k, f, v, l⟩ = refK ⟨5, ⟨a, b, c, d, e⟩, m, i, r, j, s, k, f, v, l⟩ := by
  rw [eqC_iff, rr5] at hz
  have hz : _ = (⟨0, ⟨0, 0, 0, 0, 0⟩, 0, 0, 0, 0, 0, 0, 0, 0, 0⟩ : Control) := hz
  simp only [Control.mk.injEq, Update.mk.injEq] at hz
  obtain rfl : r = 0 := by omega
  obtain rfl : j = 0 := by omega
  obtain rfl : v = 0 := by omega
  rfl
theorem en5 : cEncode ⟨5, ⟨a, b, c, d, e⟩, m, i, r, j, s, k, f, v, l⟩ = cond (cCheck ⟨5, ⟨a, b, c, d, e⟩, m, i, r, j, s, k, f, v, l⟩ != 0) ([], cCheck ⟨5, ⟨a, b, c, d, e⟩, m, i, r, j, s, k, f, v, l⟩) (oPut (⟨1, IntKind.wrap .u64 5⟩ :: zipF (szK 5) (valK ⟨5, ⟨a, b, c, d, e⟩, m, i, r, j, s, k, f, v, l⟩))) := by kernel_rfl
theorem ck6 : cCheck ⟨6, ⟨a, b, c, d, e⟩, m, i, r, j, s, k, f, v, l⟩ = cond (!(eqC (setK 6 (valK ⟨6, ⟨a, b, c, d, e⟩, m, i, r, j, s, k, f, v, l⟩)) ⟨6, ⟨a, b, c, d, e⟩, m, i, r, j, s, k, f, v, l⟩)) 1 (chkK ⟨6, ⟨a, b, c, d, e⟩, m, i, r, j, s, k, f, v, l⟩) := by kernel_rfl
theorem rk6 : r26Check ⟨6, ⟨a, b, c, d, e⟩, m, i, r, j, s, k, f, v, l⟩ = cond (!(eqC (r26rest ⟨6, ⟨a, b, c, d, e⟩, m, i, r, j, s, k, f, v, l⟩) Control.zero)) 1 (refK ⟨6, ⟨a, b, c, d, e⟩, m, i, r, j, s, k, f, v, l⟩) := by kernel_rfl
theorem sv6 : setK 6 (valK ⟨6, ⟨a, b, c, d, e⟩, m, i, r, j, s, k, f, v, l⟩) = ⟨6, ⟨0, 0, 0, 0, 0⟩, 0, 0, 0, 0, 0, 0, 0, 0, 0⟩ := by kernel_rfl
theorem rr6 : r26rest ⟨6, ⟨a, b, c, d, e⟩, m, i, r, j, s, k, f, v, l⟩ = ⟨0, ⟨a, b, c, d, e⟩, m, i, r, j, s, k, f, v, l⟩ := by kernel_rfl
theorem ez6 (h : Control.has ⟨6, ⟨a, b, c, d, e⟩, m, i, r, j, s, k, f, v, l⟩) : eqC (setK 6 (valK ⟨6, ⟨a, b, c, d, e⟩, m, i, r, j, s, k, f, v, l⟩)) ⟨6, ⟨a, b, c, d, e⟩, m, i, r, j, s, k, f, v, l⟩ = eqC (r26rest ⟨6, ⟨a, b, c, d, e⟩, m, i, r, j, s, k, f, v, l⟩) Control.zero := by
  obtain ⟨h0, ⟨ha, hb, hc, hd, he⟩, hm, hi, hr, hj, hs, hk, hf, hv, hl⟩ := h
  rw [Bool.eq_iff_iff, eqC_iff, eqC_iff, sv6, rr6]
  show (_ = _) ↔ (_ = (⟨0, ⟨0, 0, 0, 0, 0⟩, 0, 0, 0, 0, 0, 0, 0, 0, 0⟩ : Control))
  simp only [Control.mk.injEq, Update.mk.injEq, true_and, and_true, and_self]
  omega
theorem fk6 (h : Control.has ⟨6, ⟨a, b, c, d, e⟩, m, i, r, j, s, k, f, v, l⟩) (hz : eqC (r26rest ⟨6, ⟨a, b, c, d, e⟩, m, i, r, j, s, k, f, v, l⟩) Control.zero = true) : chkK ⟨6, ⟨a, b, c, d, e⟩, m, i, r, j, s, k, f, v, l⟩ = refK ⟨6, ⟨a, b, c, d, e⟩, m, i, r, j, s, k, f, v, l⟩ := by
  rw [eqC_iff, rr6] at hz
  have hz : _ = (⟨0, ⟨0, 0, 0, 0, 0⟩, 0, 0, 0, 0, 0, 0, 0, 0, 0⟩ : Control) := hz
  simp only [Control.mk.injEq, Update.mk.injEq] at hz
  obtain rfl : r = 0 := by omega
  obtain rfl : j = 0 := by omega
  obtain rfl : v = 0 := by omega
  rfl
theorem en6 : cEncode ⟨6, ⟨a, b, c, d, e⟩, m, i, r, j, s, k, f, v, l⟩ = cond (cCheck ⟨6, ⟨a, b, c, d, e⟩, m, i, r, j, s, k, f, v, l⟩ != 0) ([], cCheck ⟨6, ⟨a, b, c, d, e⟩, m, i, r, j, s, k, f, v, l⟩) (oPut (⟨1, IntKind.wrap .u64 6⟩ :: zipF (szK 6) (valK ⟨6, ⟨a, b, c, d, e⟩, m, i, r, j, s, k, f, v, l⟩))) := by kernel_rfl
theorem ck7 : cCheck ⟨7, ⟨a, b, c, d, e⟩, m, i, r, j, s, k, f, v, l⟩ = cond (!(eqC (setK 7 (valK ⟨7, ⟨a, b, c, d, e⟩, m, i, r, j, s, k, f, v, l⟩)) ⟨7, ⟨a, b, c, d, e⟩, m, i, r, j, s, k, f, v, l⟩)) 1 (chkK ⟨7, ⟨a, b, c, d, e⟩, m, i, r, j, s, k, f, v, l⟩) := by kernel_rfl
theorem rk7 : r26Check ⟨7, ⟨a, b, c, d, e⟩, m, i, r, j, s, k, f, v, l⟩ = cond (!(eqC (r26rest ⟨7, ⟨a, b, c, d, e⟩, m, i, r, j, s, k, f, v, l⟩) Control.zero)) 1 (refK ⟨7, ⟨a, b, c, d, e⟩, m, i, r, j, s, k, f, v, l⟩) := by kernel_rfl
theorem sv7 : setK 7 (valK ⟨7, ⟨a, b, c, d, e⟩, m, i, r, j, s, k, f, v, l⟩) = ⟨7, ⟨0, 0, 0, 0, 0⟩, 0, 0, 0, IntKind.wrap .i64 (IntKind.wrap .u64 j), 0, 0, 0, 0, 0⟩ := by kernel_rfl
theorem rr7 : r26rest ⟨7, ⟨a, b, c, d, e⟩, m, i, r, j, s, k, f, v, l⟩ = ⟨0, ⟨a, b, c, d, e⟩, m, i, r, 0, s, k, f, v, l⟩ := by kernel_rfl
theorem ez7 (h : Control.has ⟨7, ⟨a, b, c, d, e⟩, m, i, r, j, s, k, f, v, l⟩) : eqC (setK 7 (valK ⟨7, ⟨a, b, c, d, e⟩, m, i, r, j, s, k, f, v, l⟩)) ⟨7, ⟨a, b, c, d, e⟩, m, i, r, j, s, k, f, v, l⟩ = eqC (r26rest ⟨7, ⟨a, b, c, d, e⟩, m, i, r, j, s, k, f, v, l⟩) Control.zero := by
  obtain ⟨h0, ⟨ha, hb, hc, hd, he⟩, hm, hi, hr, hj, hs, hk, hf, hv, hl⟩ := h
  rw [Bool.eq_iff_iff, eqC_iff, eqC_iff, sv7, rr7]
  rw [w64 hj]
  show (_ = _) ↔ (_ = (⟨0, ⟨0, 0, 0, 0, 0⟩, 0, 0, 0, 0, 0, 0, 0, 0, 0⟩ : Control))
  simp only [Control.mk.injEq, Update.mk.injEq, true_and, and_true, and_self]
  omega
theorem fk7 (h : Control.has ⟨7, ⟨a, b, c, d, e⟩, m, i, r, j, s, k, f, v, l⟩) (hz : eqC (r26rest ⟨7, ⟨a, b, c, d, e⟩, m, i, r, j, s, k, f, v, l⟩) Control.zero = true) : chkK ⟨7, ⟨a, b, c, d, e⟩, m, i, r, j, s, k, f, v, l⟩ = refK ⟨7, ⟨a, b, c, d, e⟩, m, i, r, j, s, k, f, v, l⟩ := by
  rw [eqC_iff, rr7] at hz
  have hz : _ = (⟨0, ⟨0, 0, 0, 0, 0⟩, 0, 0, 0, 0, 0, 0, 0, 0, 0⟩ : Control) := hz
  simp only [Control.mk.injEq, Update.mk.injEq] at hz
  obtain rfl : r = 0 := by omega
  obtain rfl : v = 0 := by omega
  show cond (bif decide (j < 0) then true else decide (255 < j)) 5 0 = cond (bif bif bif !r26isByte 0 then true else !r26isByte j then true else !r26isByte 0 then true else bif false then bif decide (l < (27 : Int)) then true else decide ((251 : Int) < l) else false) 5 0
  rw [isByte_eq j]
  generalize (bif decide (j < 0) then true else decide (255 < j)) = B
  cases B <;> rfl
theorem en7 : cEncode ⟨7, ⟨a, b, c, d, e⟩, m, i, r, j, s, k, f, v, l⟩ = cond (cCheck ⟨7, ⟨a, b, c, d, e⟩, m, i, r, j, s, k, f, v, l⟩ != 0) ([], cCheck ⟨7, ⟨a, b, c, d, e⟩, m, i, r, j, s, k, f, v, l⟩) (oPut (⟨1, IntKind.wrap .u64 7⟩ :: zipF (szK 7) (valK ⟨7, ⟨a, b, c, d, e⟩, m, i, r, j, s, k, f, v, l⟩))) := by kernel_rfl
theorem ck8 : cCheck ⟨8, ⟨a, b, c, d, e⟩, m, i, r, j, s, k, f, v, l⟩ = cond (!(eqC (setK 8 (valK ⟨8, ⟨a, b, c, d, e⟩, m, i, r, j, s, k, f, v, l⟩)) ⟨8, ⟨a, b, c, d, e⟩, m, i, r, j, s, k, f, v, l⟩)) 1 (chkK ⟨8, ⟨a, b, c, d, e⟩, m, i, r, j, s, k, f, v, l⟩) := by kernel_rfl
theorem rk8 : r26Check ⟨8, ⟨a, b, c, d, e⟩, m, i, r, j, s, k, f, v, l⟩ = cond (!(eqC (r26rest ⟨8, ⟨a, b, c, d, e⟩, m, i, r, j, s, k, f, v, l⟩) Control.zero)) 1 (refK ⟨8, ⟨a, b, c, d, e⟩, m, i, r, j, s, k, f, v, l⟩) := by kernel_rfl
theorem sv8 : setK 8 (valK ⟨8, ⟨a, b, c, d, e⟩, m, i, r, j, s, k, f, v, l⟩) = ⟨8, ⟨0, 0, 0, 0, 0⟩, 0, 0, 0, 0, 0, 0, f, 0, 0⟩ := by kernel_rfl
theorem rr8 : r26rest ⟨8, ⟨a, b, c, d, e⟩, m, i, r, j, s, k, f, v, l⟩ = ⟨0, ⟨a, b, c, d, e⟩, m, i, r, j, s, k, 0, v, l⟩ := by kernel_rfl
theorem ez8 (h : Control.has ⟨8, ⟨a, b, c, d, e⟩, m, i, r, j, s, k, f, v, l⟩) : eqC (setK 8 (valK ⟨8, ⟨a, b, c, d, e⟩, m, i, r, j, s, k, f, v, l⟩)) ⟨8, ⟨a, b, c, d, e⟩, m, i, r, j, s, k, f, v, l⟩ = eqC (r26rest ⟨8, ⟨a, b, c, d, e⟩, m, i, r, j, s, k, f, v, l⟩) Control.zero := by
  obtain ⟨h0, ⟨ha, hb, hc, hd, he⟩, hm, hi, hr, hj, hs, hk, hf, hv, hl⟩ := h
  rw [Bool.eq_iff_iff, eqC_iff, eqC_iff, sv8, rr8]
  show (_ = _) ↔ (_ = (⟨0, ⟨0, 0, 0, 0, 0⟩, 0, 0, 0, 0, 0, 0, 0, 0, 0⟩ : Control))
  simp only [Control.mk.injEq, Update.mk.injEq, true_and, and_true, and_self]
  omega
theorem fk8 (h : Control.has ⟨8, ⟨a, b, c, d, e⟩, m, i, r, j, s, k, f, v, l⟩) (hz : eqC (r26rest ⟨8, ⟨a, b, c, d, e⟩, m, i, r, j, s, k, f, v, l⟩) Control.zero = true) : chkK ⟨8, ⟨a, b, c, d, e⟩, m, i, r, j, s, k, f, v, l⟩ = refK ⟨8, ⟨a, b, c, d, e⟩, m, i, r, j, s, k, f, v, l⟩ := by
  rw [eqC_iff, rr8] at hz
  have hz : _ = (⟨0, ⟨0, 0, 0, 0, 0⟩, 0, 0, 0, 0, 0, 0, 0, 0, 0⟩ : Control) := hz
  simp only [Control.mk.injEq, Update.mk.injEq] at hz
  obtain rfl : r = 0 := by omega
  obtain rfl : j = 0 := by omega
  obtain rfl : v = 0 := by omega
  rfl
theorem en8 : cEncode ⟨8, ⟨a, b, c, d, e⟩, m, i, r, j, s, k, f, v, l⟩ = cond (cCheck ⟨8, ⟨a, b, c, d, e⟩, m, i, r, j, s, k, f, v, l⟩ != 0) ([], cCheck ⟨8, ⟨a, b, c, d, e⟩, m, i, r, j, s, k, f, v, l⟩) (oPut (⟨1, IntKind.wrap .u64 8⟩ :: zipF (szK 8) (valK ⟨8, ⟨a, b, c, d, e⟩, m, i, r, j, s, k, f, v, l⟩))) := by kernel_rfl
theorem ck9 : cCheck ⟨9, ⟨a, b, c, d, e⟩, m, i, r, j, s, k, f, v, l⟩ = cond (!(eqC (setK 9 (valK ⟨9, ⟨a, b, c, d, e⟩, m, i, r, j, s, k, f, v, l⟩)) ⟨9, ⟨a, b, c, d, e⟩, m, i, r, j, s, k, f, v, l⟩)) 1 (chkK ⟨9, ⟨a, b, c, d, e⟩, m, i, r, j, s, k, f, v, l⟩) := by kernel_rfl
theorem rk9 : r26Check ⟨9, ⟨a, b, c, d, e⟩, m, i, r, j, s, k, f, v, l⟩ = cond (!(eqC (r26rest ⟨9, ⟨a, b, c, d, e⟩, m, i, r, j, s, k, f, v, l⟩) Control.zero)) 1 (refK ⟨9, ⟨a, b, c, d, e⟩, m, i, r, j, s, k, f, v, l⟩) := by kernel_rfl
theorem sv9 : setK 9 (valK ⟨9, ⟨a, b, c, d, e⟩, m, i, r, j, s, k, f, v, l⟩) = ⟨9, ⟨0, 0, 0, 0, 0⟩, 0, 0, 0, 0, 0, 0, f, 0, 0⟩ := by kernel_rfl
theorem rr9 : r26rest ⟨9, ⟨a, b, c, d, e⟩, m, i, r, j, s, k, f, v, l⟩ = ⟨0, ⟨a, b, c, d, e⟩, m, i, r, j, s, k, 0, v, l⟩ := by kernel_rfl
theorem ez9 (h : Control.has ⟨9, ⟨a, b, c, d, e⟩, m, i, r, j, s, k, f, v, l⟩) : eqC (setK 9 (valK ⟨9, ⟨a, b, c, d, e⟩, m, i, r, j, s, k, f, v, l⟩)) ⟨9, ⟨a, b, c, d, e⟩, m, i, r, j, s, k, f, v, l⟩ = eqC (r26rest ⟨9, ⟨a, b, c, d, e⟩, m, i, r, j, s, k, f, v, l⟩) Control.zero := by
  obtain ⟨h0, ⟨ha, hb, hc, hd, he⟩, hm, hi, hr, hj, hs, hk, hf, hv, hl⟩ := h
  rw [Bool.eq_iff_iff, eqC_iff, eqC_iff, sv9, rr9]
  show (_ = _) ↔ (_ = (⟨0, ⟨0, 0, 0, 0, 0⟩, 0, 0, 0, 0, 0, 0, 0, 0, 0⟩ : Control))
  simp only [Control.mk.injEq, Update.mk.injEq, true_and, and_true, and_self]
  omega
theorem fk9 (h : Control.has ⟨9, ⟨a, b, c, d, e⟩, m, i, r, j, s, k, f, v, l⟩) (hz : eqC (r26rest ⟨9, ⟨a, b, c, d, e⟩, m, i, r, j, s, k, f, v, l⟩) Control.zero = true) : chkK ⟨9, ⟨a, b, c, d, e⟩, m, i, r, j, s, k, f, v, l⟩ = refK ⟨9, ⟨a, b, c, d, e⟩, m, i, r, j, s, k, f, v, l⟩ := by
  rw [eqC_iff, rr9] at hz
  have hz : _ = (⟨0, ⟨0, 0, 0, 0, 0⟩, 0, 0, 0, 0, 0, 0, 0, 0, 0⟩ : Control) := hz
  simp only [Control.mk.injEq, Update.mk.injEq] at hz
  obtain rfl : r = 0 := by omega
  obtain rfl : j = 0 := by omega
  obtain rfl : v = 0 := by omega
  rfl
theorem en9 : cEncode ⟨9, ⟨a, b, c, d, e⟩, m, i, r, j, s, k, f, v, l⟩ = cond (cCheck ⟨9, ⟨a, b, c, d, e⟩, m, i, r, j, s, k, f, v, l⟩ != 0) ([], cCheck ⟨9, ⟨a, b, c, d, e⟩, m, i, r, j, s, k, f, v, l⟩) (oPut (⟨1, IntKind.wrap .u64 9⟩ :: zipF (szK 9) (valK ⟨9, ⟨a, b, c, d, e⟩, m, i, r, j, s, k, f, v, l⟩))) := by kernel_rfl
theorem ck12 : cCheck ⟨12, ⟨a, b, c, d, e⟩, m, i, r, j, s, k, f, v, l⟩ = cond (!(eqC (setK 12 (valK ⟨12, ⟨a, b, c, d, e⟩, m, i, r, j, s, k, f, v, l⟩)) ⟨12, ⟨a, b, c, d, e⟩, m, i, r, j, s, k, f, v, l⟩)) 1 (chkK ⟨12, ⟨a, b, c, d, e⟩, m, i, r, j, s, k, f, v, l⟩) := by kernel_rfl
theorem rk12 : r26Check ⟨12, ⟨a, b, c, d, e⟩, m, i, r, j, s, k, f, v, l⟩ = cond (!(eqC (r26rest ⟨12, ⟨a, b, c, d, e⟩, m, i, r, j, s, k, f, v, l⟩) Control.zero)) 1 (refK ⟨12, ⟨a, b, c, d, e⟩, m, i, r, j, s, k, f, v, l⟩) := by kernel_rfl
theorem sv12 : setK 12 (valK ⟨12, ⟨a, b, c, d, e⟩, m, i, r, j, s, k, f, v, l⟩) = ⟨12, ⟨0, 0, 0, 0, 0⟩, 0, 0, 0, 0, 0, 0, 0, IntKind.wrap .i64 (IntKind.wrap .u64 v), 0⟩ := by kernel_rfl
theorem rr12 : r26rest ⟨12, ⟨a, b, c, d, e⟩, m, i, r, j, s, k, f, v, l⟩ = ⟨0, ⟨a, b, c, d, e⟩, m, i, r, j, s, k, f, 0, l⟩ := by kernel_rfl
theorem ez12 (h : Control.has ⟨12, ⟨a, b, c, d, e⟩, m, i, r, j, s, k, f, v, l⟩) : eqC (setK 12 (valK ⟨12, ⟨a, b, c, d, e⟩, m, i, r, j, s, k, f, v, l⟩)) ⟨12, ⟨a, b, c, d, e⟩, m, i, r, j, s, k, f, v, l⟩ = eqC (r26rest ⟨12, ⟨a, b, c, d, e⟩, m, i, r, j, s, k, f, v, l⟩) Control.zero := by
  obtain ⟨h0, ⟨ha, hb, hc, hd, he⟩, hm, hi, hr, hj, hs, hk, hf, hv, hl⟩ := h
  rw [Bool.eq_iff_iff, eqC_iff, eqC_iff, sv12, rr12]
  rw [w64 hv]
  show (_ = _) ↔ (_ = (⟨0, ⟨0, 0, 0, 0, 0⟩, 0, 0, 0, 0, 0, 0, 0, 0, 0⟩ : Control))
  simp only [Control.mk.injEq, Update.mk.injEq, true_and, and_true, and_self]
  omega
theorem fk12 (h : Control.has ⟨12, ⟨a, b, c, d, e⟩, m, i, r, j, s, k, f, v, l⟩) (hz : eqC (r26rest ⟨12, ⟨a, b, c, d, e⟩, m, i, r, j, s, k, f, v, l⟩) Control.zero = true) : chkK ⟨12, ⟨a, b, c, d, e⟩, m, i, r, j, s, k, f, v, l⟩ = refK ⟨12, ⟨a, b, c, d, e⟩, m, i, r, j, s, k, f, v, l⟩ := by
  rw [eqC_iff, rr12] at hz
  have hz : _ = (⟨0, ⟨0, 0, 0, 0, 0⟩, 0, 0, 0, 0, 0, 0, 0, 0, 0⟩ : Control) := hz
  simp only [Control.mk.injEq, Update.mk.injEq] at hz
  obtain rfl : r = 0 := by omega
  obtain rfl : j = 0 := by omega
  show cond (bif decide (v < 0) then true else decide (255 < v)) 5 0 = cond (bif bif bif !r26isByte 0 then true else !r26isByte 0 then true else !r26isByte v then true else bif false then bif decide (l < (27 : Int)) then true else decide ((251 : Int) < l) else false) 5 0
  rw [isByte_eq v]
  generalize (bif decide (v < 0) then true else decide (255 < v)) = B
  cases B <;> rfl
theorem en12 : cEncode ⟨12, ⟨a, b, c, d, e⟩, m, i, r, j, s, k, f, v, l⟩ = cond (cCheck ⟨12, ⟨a, b, c, d, e⟩, m, i, r, j, s, k, f, v, l⟩ != 0) ([], cCheck ⟨12, ⟨a, b, c, d, e⟩, m, i, r, j, s, k, f, v, l⟩) (oPut (⟨1, IntKind.wrap .u64 12⟩ :: zipF (szK 12) (valK ⟨12, ⟨a, b, c, d, e⟩, m, i, r, j, s, k, f, v, l⟩))) := by kernel_rfl
theorem ck13 : cCheck ⟨13, ⟨a, b, c, d, e⟩, m, i, r, j, s, k, f, v, l⟩ = cond (!(eqC (setK 13 (valK ⟨13, ⟨a, b, c, d, e⟩, m, i, r, j, s, k, f, v, l⟩)) ⟨13, ⟨a, b, c, d, e⟩, m, i, r, j, s, k, f, v, l⟩)) 1 (chkK ⟨13, ⟨a, b, c, d, e⟩, m, i, r, j, s, k, f, v, l⟩) := by kernel_rfl
theorem rk13 : r26Check ⟨13, ⟨a, b, c, d, e⟩, m, i, r, j, s, k, f, v, l⟩ = cond (!(eqC (r26rest ⟨13, ⟨a, b, c, d, e⟩, m, i, r, j, s, k, f, v, l⟩) Control.zero)) 1 (refK ⟨13, ⟨a, b, c, d, e⟩, m, i, r, j, s, k, f, v, l⟩) := by kernel_rfl
theorem sv13 : setK 13 (valK ⟨13, ⟨a, b, c, d, e⟩, m, i, r, j, s, k, f, v, l⟩) = ⟨13, ⟨0, 0, 0, 0, 0⟩, 0, 0, IntKind.wrap .i64 (IntKind.wrap .u64 r), IntKind.wrap .i64 (IntKind.wrap .u64 j), 0, 0, 0, 0, 0⟩ := by kernel_rfl
theorem rr13 : r26rest ⟨13, ⟨a, b, c, d, e⟩, m, i, r, j, s, k, f, v, l⟩ = ⟨0, ⟨a, b, c, d, e⟩, m, i, 0, 0, s, k, f, v, l⟩ := by kernel_rfl
theorem ez13 (h : Control.has ⟨13, ⟨a, b, c, d, e⟩, m, i, r, j, s, k, f, v, l⟩) : eqC (setK 13 (valK ⟨13, ⟨a, b, c, d, e⟩, m, i, r, j, s, k, f, v, l⟩)) ⟨13, ⟨a, b, c, d, e⟩, m, i, r, j, s, k, f, v, l⟩ = eqC (r26rest ⟨13, ⟨a, b, c, d, e⟩, m, i, r, j, s, k, f, v, l⟩) Control.zero := by
  obtain ⟨h0, ⟨ha, hb, hc, hd, he⟩, hm, hi, hr, hj, hs, hk, hf, hv, hl⟩ := h
  rw [Bool.eq_iff_iff, eqC_iff, eqC_iff, sv13, rr13]
  rw [w64 hr, w64 hj]
  show (_ = _) ↔ (_ = (⟨0, ⟨0, 0, 0, 0, 0⟩, 0, 0, 0, 0, 0, 0, 0, 0, 0⟩ : Control))
  simp only [Control.mk.injEq, Update.mk.injEq, true_and, and_true, and_self]
  omega
theorem fk13 (h : Control.has ⟨13, ⟨a, b, c, d, e⟩, m, i, r, j, s, k, f, v, l⟩) (hz : eqC (r26rest ⟨13, ⟨a, b, c, d, e⟩, m, i, r, j, s, k, f, v, l⟩) Control.zero = true) : chkK ⟨13, ⟨a, b, c, d, e⟩, m, i, r, j, s, k, f, v, l⟩ = refK ⟨13, ⟨a, b, c, d, e⟩, m, i, r, j, s, k, f, v, l⟩ := by
  rw [eqC_iff, rr13] at hz
  have hz : _ = (⟨0, ⟨0, 0, 0, 0, 0⟩, 0, 0, 0, 0, 0, 0, 0, 0, 0⟩ : Control) := hz
  simp only [Control.mk.injEq, Update.mk.injEq] at hz
  obtain rfl : v = 0 := by omega
  show maxI (cond (bif decide (r < 0) then true else decide (255 < r)) 5 0) (cond (bif decide (j < 0) then true else decide (255 < j)) 5 0) = cond (bif bif bif !r26isByte r then true else !r26isByte j then true else !r26isByte 0 then true else bif false then bif decide (l < (27 : Int)) then true else decide ((251 : Int) < l) else false) 5 0
  rw [isByte_eq r, isByte_eq j]
  generalize (bif decide (r < 0) then true else decide (255 < r)) = B
  generalize (bif decide (j < 0) then true else decide (255 < j)) = D
  cases B <;> cases D <;> rfl
theorem en13 : cEncode ⟨13, ⟨a, b, c, d, e⟩, m, i, r, j, s, k, f, v, l⟩ = cond (cCheck ⟨13, ⟨a, b, c, d, e⟩, m, i, r, j, s, k, f, v, l⟩ != 0) ([], cCheck ⟨13, ⟨a, b, c, d, e⟩, m, i, r, j, s, k, f, v, l⟩) (oPut (⟨1, IntKind.wrap .u64 13⟩ :: zipF (szK 13) (valK ⟨13, ⟨a, b, c, d, e⟩, m, i, r, j, s, k, f, v, l⟩))) := by kernel_rfl
theorem ck15 : cCheck ⟨15, ⟨a, b, c, d, e⟩, m, i, r, j, s, k, f, v, l⟩ = cond (!(eqC (setK 15 (valK ⟨15, ⟨a, b, c, d, e⟩, m, i, r, j, s, k, f, v, l⟩)) ⟨15, ⟨a, b, c, d, e⟩, m, i, r, j, s, k, f, v, l⟩)) 1 (chkK ⟨15, ⟨a, b, c, d, e⟩, m, i, r, j, s, k, f, v, l⟩) := by kernel_rfl
theorem rk15 : r26Check ⟨15, ⟨a, b, c, d, e⟩, m, i, r, j, s, k, f, v, l⟩ = cond (!(eqC (r26rest ⟨15, ⟨a, b, c, d, e⟩, m, i, r, j, s, k, f, v, l⟩) Control.zero)) 1 (refK ⟨15, ⟨a, b, c, d, e⟩, m, i, r, j, s, k, f, v, l⟩) := by kernel_rfl
theorem sv15 : setK 15 (valK ⟨15, ⟨a, b, c, d, e⟩, m, i, r, j, s, k, f, v, l⟩) = ⟨15, ⟨IntKind.wrap .i64 (IntKind.wrap .u64 a), IntKind.wrap .i64 (IntKind.wrap .u64 b), IntKind.wrap .i64 (IntKind.wrap .u64 c), IntKind.wrap .i64 (IntKind.wrap .u64 d), IntKind.wrap .i64 (IntKind.wrap .u64 e)⟩, 0, 0, 0, 0, 0, 0, 0, 0, 0⟩ := by kernel_rfl
theorem rr15 : r26rest ⟨15, ⟨a, b, c, d, e⟩, m, i, r, j, s, k, f, v, l⟩ = ⟨0, ⟨0, 0, 0, 0, 0⟩, m, i, r, j, s, k, f, v, l⟩ := by kernel_rfl
theorem ez15 (h : Control.has ⟨15, ⟨a, b, c, d, e⟩, m, i, r, j, s, k, f, v, l⟩) : eqC (setK 15 (valK ⟨15, ⟨a, b, c, d, e⟩, m, i, r, j, s, k, f, v, l⟩)) ⟨15, ⟨a, b, c, d, e⟩, m, i, r, j, s, k, f, v, l⟩ = eqC (r26rest ⟨15, ⟨a, b, c, d, e⟩, m, i, r, j, s, k, f, v, l⟩) Control.zero := by
  obtain ⟨h0, ⟨ha, hb, hc, hd, he⟩, hm, hi, hr, hj, hs, hk, hf, hv, hl⟩ := h
  rw [Bool.eq_iff_iff, eqC_iff, eqC_iff, sv15, rr15]
  rw [w64 ha, w64 hb, w64 hc, w64 hd, w64 he]
  show (_ = _) ↔ (_ = (⟨0, ⟨0, 0, 0, 0, 0⟩, 0, 0, 0, 0, 0, 0, 0, 0, 0⟩ : Control))
  simp only [Control.mk.injEq, Update.mk.injEq, true_and, and_true, and_self]
  omega
theorem fk15 (h : Control.has ⟨15, ⟨a, b, c, d, e⟩, m, i, r, j, s, k, f, v, l⟩) (hz : eqC (r26rest ⟨15, ⟨a, b, c, d, e⟩, m, i, r, j, s, k, f, v, l⟩) Control.zero = true) : chkK ⟨15, ⟨a, b, c, d, e⟩, m, i, r, j, s, k, f, v, l⟩ = refK ⟨15, ⟨a, b, c, d, e⟩, m, i, r, j, s, k, f, v, l⟩ := by
  rw [eqC_iff, rr15] at hz
  have hz : _ = (⟨0, ⟨0, 0, 0, 0, 0⟩, 0, 0, 0, 0, 0, 0, 0, 0, 0⟩ : Control) := hz
  simp only [Control.mk.injEq, Update.mk.injEq] at hz
  obtain rfl : r = 0 := by omega
  obtain rfl : j = 0 := by omega
  obtain rfl : v = 0 := by omega
  show cCheckUpdate ⟨a, b, c, d, e⟩ = cond (r17CheckUpdate ⟨a, b, c, d, e⟩ != 0) (r17CheckUpdate ⟨a, b, c, d, e⟩) 0
  rw [checkUpdate_eq, cond_self0]
theorem en15 : cEncode ⟨15, ⟨a, b, c, d, e⟩, m, i, r, j, s, k, f, v, l⟩ = cond (cCheck ⟨15, ⟨a, b, c, d, e⟩, m, i, r, j, s, k, f, v, l⟩ != 0) ([], cCheck ⟨15, ⟨a, b, c, d, e⟩, m, i, r, j, s, k, f, v, l⟩) (oPut (⟨1, IntKind.wrap .u64 15⟩ :: zipF (szK 15) (valK ⟨15, ⟨a, b, c, d, e⟩, m, i, r, j, s, k, f, v, l⟩))) := by kernel_rfl
theorem ck18 : cCheck ⟨18, ⟨a, b, c, d, e⟩, m, i, r, j, s, k, f, v, l⟩ = cond (!(eqC (setK 18 (valK ⟨18, ⟨a, b, c, d, e⟩, m, i, r, j, s, k, f, v, l⟩)) ⟨18, ⟨a, b, c, d, e⟩, m, i, r, j, s, k, f, v, l⟩)) 1 (chkK ⟨18, ⟨a, b, c, d, e⟩, m, i, r, j, s, k, f, v, l⟩) := by kernel_rfl
theorem rk18 : r26Check ⟨18, ⟨a, b, c, d, e⟩, m, i, r, j, s, k, f, v, l⟩ = cond (!(eqC (r26rest ⟨18, ⟨a, b, c, d, e⟩, m, i, r, j, s, k, f, v, l⟩) Control.zero)) 1 (refK ⟨18, ⟨a, b, c, d, e⟩, m, i, r, j, s, k, f, v, l⟩) := by kernel_rfl
theorem sv18 : setK 18 (valK ⟨18, ⟨a, b, c, d, e⟩, m, i, r, j, s, k, f, v, l⟩) = ⟨18, ⟨0, 0, 0, 0, 0⟩, 0, 0, 0, 0, 0, 0, 0, 0, 0⟩ := by kernel_rfl
theorem rr18 : r26rest ⟨18, ⟨a, b, c, d, e⟩, m, i, r, j, s, k, f, v, l⟩ = ⟨0, ⟨a, b, c, d, e⟩, m, i, r, j, s, k, f, v, l⟩ := by kernel_rfl
theorem ez18 (h : Control.has ⟨18, ⟨a, b, c, d, e⟩, m, i, r, j, s, k, f, v, l⟩) : eqC (setK 18 (valK ⟨18, ⟨a, b, c, d, e⟩, m, i, r, j, s, k, f, v, l⟩)) ⟨18, ⟨a, b, c, d, e⟩, m, i, r, j, s, k, f, v, l⟩ = eqC (r26rest ⟨18, ⟨a, b, c, d, e⟩, m, i, r, j, s, k, f, v, l⟩) Control.zero := by
  obtain ⟨h0, ⟨ha, hb, hc, hd, he⟩, hm, hi, hr, hj, hs, hk, hf, hv, hl⟩ := h
  rw [Bool.eq_iff_iff, eqC_iff, eqC_iff, sv18, rr18]
  show (_ = _) ↔ (_ = (⟨0, ⟨0, 0, 0, 0, 0⟩, 0, 0, 0, 0, 0, 0, 0, 0, 0⟩ : Control))
  simp only [Control.mk.injEq, Update.mk.injEq, true_and, and_true, and_self]
  omega
theorem fk18 (h : Control.has ⟨18, ⟨a, b, c, d, e⟩, m, i, r, j, s, k, f, v, l⟩) (hz : eqC (r26rest ⟨18, ⟨a, b, c, d, e⟩, m, i, r, j, s, k, f, v, l⟩) Control.zero = true) : chkK ⟨18, ⟨a, b, c, d, e⟩, m, i, r, j, s, k, f, v, l⟩ = refK ⟨18, ⟨a, b, c, d, e⟩, m, i, r, j, s, k, f, v, l⟩ := by
  rw [eqC_iff, rr18] at hz
  have hz : _ = (⟨0, ⟨0, 0, 0, 0, 0⟩, 0, 0, 0, 0, 0, 0, 0, 0, 0⟩ : Control) := hz
  simp only [Control.mk.injEq, Update.mk.injEq] at hz
  obtain rfl : r = 0 := by omega
  obtain rfl : j = 0 := by omega
  obtain rfl : v = 0 := by omega
  rfl
theorem en18 : cEncode ⟨18, ⟨a, b, c, d, e⟩, m, i, r, j, s, k, f, v, l⟩ = cond (cCheck ⟨18, ⟨a, b, c, d, e⟩, m, i, r, j, s, k, f, v, l⟩ != 0) ([], cCheck ⟨18, ⟨a, b, c, d, e⟩, m, i, r, j, s, k, f, v, l⟩) (oPut (⟨1, IntKind.wrap .u64 18⟩ :: zipF (szK 18) (valK ⟨18, ⟨a, b, c, d, e⟩, m, i, r, j, s, k, f, v, l⟩))) := by kernel_rfl
theorem ck19 : cCheck ⟨19, ⟨a, b, c, d, e⟩, m, i, r, j, s, k, f, v, l⟩ = cond (!(eqC (setK 19 (valK ⟨19, ⟨a, b, c, d, e⟩, m, i, r, j, s, k, f, v, l⟩)) ⟨19, ⟨a, b, c, d, e⟩, m, i, r, j, s, k, f, v, l⟩)) 1 (chkK ⟨19, ⟨a, b, c, d, e⟩, m, i, r, j, s, k, f, v, l⟩) := by kernel_rfl
theorem rk19 : r26Check ⟨19, ⟨a, b, c, d, e⟩, m, i, r, j, s, k, f, v, l⟩ = cond (!(eqC (r26rest ⟨19, ⟨a, b, c, d, e⟩, m, i, r, j, s, k, f, v, l⟩) Control.zero)) 1 (refK ⟨19, ⟨a, b, c, d, e⟩, m, i, r, j, s, k, f, v, l⟩) := by kernel_rfl
theorem sv19 : setK 19 (valK ⟨19, ⟨a, b, c, d, e⟩, m, i, r, j, s, k, f, v, l⟩) = ⟨19, ⟨0, 0, 0, 0, 0⟩, 0, 0, 0, 0, 0, 0, 0, 0, 0⟩ := by kernel_rfl
theorem rr19 : r26rest ⟨19, ⟨a, b, c, d, e⟩, m, i, r, j, s, k, f, v, l⟩ = ⟨0, ⟨a, b, c, d, e⟩, m, i, r, j, s, k, f, v, l⟩ := by kernel_rfl
theorem ez19 (h : Control.has ⟨19, ⟨a, b, c, d, e⟩, m, i, r, j, s, k, f, v, l⟩) : eqC (setK 19 (valK ⟨19, ⟨a, b, c, d, e⟩, m, i, r, j, s, k, f, v, l⟩)) ⟨19, ⟨a, b, c, d, e⟩, m, i, r, j, s, k, f, v, l⟩ = eqC (r26rest ⟨19, ⟨a, b, c, d, e⟩, m, i, r, j, s, k, f, v, l⟩) Control.zero := by
  obtain ⟨h0, ⟨ha, hb, hc, hd, he⟩, hm, hi, hr, hj, hs, hk, hf, hv, hl⟩ := h
  rw [Bool.eq_iff_iff, eqC_iff, eqC_iff, sv19, rr19]
  show (_ = _) ↔ (_ = (⟨0, ⟨0, 0, 0, 0, 0⟩, 0, 0, 0, 0, 0, 0, 0, 0, 0⟩ : Control))
  simp only [Control.mk.injEq, Update.mk.injEq, true_and, and_true, and_self]
  omega
theorem fk19 (h : Control.has ⟨19, ⟨a, b, c, d, e⟩, m, i, r, j, s, k, f, v, l⟩) (hz : eqC (r26rest ⟨19, ⟨a, b, c, d, e⟩, m, i, r, j, s, k, f, v, l⟩) Control.zero = true) : chkK ⟨19, ⟨a, b, c, d, e⟩, m, i, r, j, s, k, f, v, l⟩ = refK ⟨19, ⟨a, b, c, d, e⟩, m, i, r, j, s, k, f, v, l⟩ := by
  rw [eqC_iff, rr19] at hz
  have hz : _ = (⟨0, ⟨0, 0, 0, 0, 0⟩, 0, 0, 0, 0, 0, 0, 0, 0, 0⟩ : Control) := hz
  simp only [Control.mk.injEq, Update.mk.injEq] at hz
  obtain rfl : r = 0 := by omega
  obtain rfl : j = 0 := by omega
  obtain rfl : v = 0 := by omega
  rfl
theorem en19 : cEncode ⟨19, ⟨a, b, c, d, e⟩, m, i, r, j, s, k, f, v, l⟩ = cond (cCheck ⟨19, ⟨a, b, c, d, e⟩, m, i, r, j, s, k, f, v, l⟩ != 0) ([], cCheck ⟨19, ⟨a, b, c, d, e⟩, m, i, r, j, s, k, f, v, l⟩) (oPut (⟨1, IntKind.wrap .u64 19⟩ :: zipF (szK 19) (valK ⟨19, ⟨a, b, c, d, e⟩, m, i, r, j, s, k, f, v, l⟩))) := by kernel_rfl
theorem ck20 : cCheck ⟨20, ⟨a, b, c, d, e⟩, m, i, r, j, s, k, f, v, l⟩ = cond (!(eqC (setK 20 (valK ⟨20, ⟨a, b, c, d, e⟩, m, i, r, j, s, k, f, v, l⟩)) ⟨20, ⟨a, b, c, d, e⟩, m, i, r, j, s, k, f, v, l⟩)) 1 (chkK ⟨20, ⟨a, b, c, d, e⟩, m, i, r, j, s, k, f, v, l⟩) := by kernel_rfl
theorem rk20 : r26Check ⟨20, ⟨a, b, c, d, e⟩, m, i, r, j, s, k, f, v, l⟩ = cond (!(eqC (r26rest ⟨20, ⟨a, b, c, d, e⟩, m, i, r, j, s, k, f, v, l⟩) Control.zero)) 1 (refK ⟨20, ⟨a, b, c, d, e⟩, m, i, r, j, s, k, f, v, l⟩) := by kernel_rfl
theorem sv20 : setK 20 (valK ⟨20, ⟨a, b, c, d, e⟩, m, i, r, j, s, k, f, v, l⟩) = ⟨20, ⟨0, 0, 0, 0, 0⟩, 0, 0, 0, 0, 0, 0, 0, 0, IntKind.wrap .i64 (IntKind.wrap .u64 l)⟩ := by kernel_rfl
theorem rr20 : r26rest ⟨20, ⟨a, b, c, d, e⟩, m, i, r, j, s, k, f, v, l⟩ = ⟨0, ⟨a, b, c, d, e⟩, m, i, r, j, s, k, f, v, 0⟩ := by kernel_rfl
theorem ez20 (h : Control.has ⟨20, ⟨a, b, c, d, e⟩, m, i, r, j, s, k, f, v, l⟩) : eqC (setK 20 (valK ⟨20, ⟨a, b, c, d, e⟩, m, i, r, j, s, k, f, v, l⟩)) ⟨20, ⟨a, b, c, d, e⟩, m, i, r, j, s, k, f, v, l⟩ = eqC (r26rest ⟨20, ⟨a, b, c, d, e⟩, m, i, r, j, s, k, f, v, l⟩) Control.zero := by
  obtain ⟨h0, ⟨ha, hb, hc, hd, he⟩, hm, hi, hr, hj, hs, hk, hf, hv, hl⟩ := h
  rw [Bool.eq_iff_iff, eqC_iff, eqC_iff, sv20, rr20]
  rw [w64 hl]
  show (_ = _) ↔ (_ = (⟨0, ⟨0, 0, 0, 0, 0⟩, 0, 0, 0, 0, 0, 0, 0, 0, 0⟩ : Control))
  simp only [Control.mk.injEq, Update.mk.injEq, true_and, and_true, and_self]
  omega
theorem fk20 (h : Control.has ⟨20, ⟨a, b, c, d, e⟩, m, i, r, j, s, k, f, v, l⟩) (hz : eqC (r26rest ⟨20, ⟨a, b, c, d, e⟩, m, i, r, j, s, k, f, v, l⟩) Control.zero = true) : chkK ⟨20, ⟨a, b, c, d, e⟩, m, i, r, j, s, k, f, v, l⟩ = refK ⟨20, ⟨a, b, c, d, e⟩, m, i, r, j, s, k, f, v, l⟩ := by
  rw [eqC_iff, rr20] at hz
  have hz : _ = (⟨0, ⟨0, 0, 0, 0, 0⟩, 0, 0, 0, 0, 0, 0, 0, 0, 0⟩ : Control) := hz
  simp only [Control.mk.injEq, Update.mk.injEq] at hz
  obtain rfl : r = 0 := by omega
  obtain rfl : j = 0 := by omega
  obtain rfl : v = 0 := by omega
  show cond (bif decide (l < 27) then true else decide (251 < l)) 5 0 = cond (bif bif bif !r26isByte 0 then true else !r26isByte 0 then true else !r26isByte 0 then true else bif true then bif decide (l < (27 : Int)) then true else decide ((251 : Int) < l) else false) 5 0
  generalize (bif decide (l < 27) then true else decide (251 < l)) = B
  cases B <;> rfl
theorem en20 : cEncode ⟨20, ⟨a, b, c, d, e⟩, m, i, r, j, s, k, f, v, l⟩ = cond (cCheck ⟨20, ⟨a, b, c, d, e⟩, m, i, r, j, s, k, f, v, l⟩ != 0) ([], cCheck ⟨20, ⟨a, b, c, d, e⟩, m, i, r, j, s, k, f, v, l⟩) (oPut (⟨1, IntKind.wrap .u64 20⟩ :: zipF (szK 20) (valK ⟨20, ⟨a, b, c, d, e⟩, m, i, r, j, s, k, f, v, l⟩))) := by kernel_rfl
theorem ck21 : cCheck ⟨21, ⟨a, b, c, d, e⟩, m, i, r, j, s, k, f, v, l⟩ = cond (!(eqC (setK 21 (valK ⟨21, ⟨a, b, c, d, e⟩, m, i, r, j, s, k, f, v, l⟩)) ⟨21, ⟨a, b, c, d, e⟩, m, i, r, j, s, k, f, v, l⟩)) 1 (chkK ⟨21, ⟨a, b, c, d, e⟩, m, i, r, j, s, k, f, v, l⟩) := by kernel_rfl
theorem rk21 : r26Check ⟨21, ⟨a, b, c, d, e⟩, m, i, r, j, s, k, f, v, l⟩ = cond (!(eqC (r26rest ⟨21, ⟨a, b, c, d, e⟩, m, i, r, j, s, k, f, v, l⟩) Control.zero)) 1 (refK ⟨21, ⟨a, b, c, d, e⟩, m, i, r, j, s, k, f, v, l⟩) := by kernel_rfl
theorem sv21 : setK 21 (valK ⟨21, ⟨a, b, c, d, e⟩, m, i, r, j, s, k, f, v, l⟩) = ⟨21, ⟨0, 0, 0, 0, 0⟩, 0, 0, 0, 0, 0, 0, 0, 0, IntKind.wrap .i64 (IntKind.wrap .u64 l)⟩ := by kernel_rfl
theorem rr21 : r26rest ⟨21, ⟨a, b, c, d, e⟩, m, i, r, j, s, k, f, v, l⟩ = ⟨0, ⟨a, b, c, d, e⟩, m, i, r, j, s, k, f, v, 0⟩ := by kernel_rfl
theorem ez21 (h : Control.has ⟨21, ⟨a, b, c, d, e⟩, m, i, r, j, s, k, f, v, l⟩) : eqC (setK 21 (valK ⟨21, ⟨a, b, c, d, e⟩, m, i, r, j, s, k, f, v, l⟩)) ⟨21, ⟨a, b, c, d, e⟩, m, i, r, j, s, k, f, v, l⟩ = eqC (r26rest ⟨21, ⟨a, b, c, d, e⟩, m, i, r, j, s, k, f, v, l⟩) Control.zero := by
  obtain ⟨h0, ⟨ha, hb, hc, hd, he⟩, hm, hi, hr, hj, hs, hk, hf, hv, hl⟩ := h
  rw [Bool.eq_iff_iff, eqC_iff, eqC_iff, sv21, rr21]
  rw [w64 hl]
  show (_ = _) ↔ (_ = (⟨0, ⟨0, 0, 0, 0, 0⟩, 0, 0, 0, 0, 0, 0, 0, 0, 0⟩ : Control))
  simp only [Control.mk.injEq, Update.mk.injEq, true_and, and_true, and_self]
  omega
theorem fk21 (h : Control.has ⟨21, ⟨a, b, c, d, e⟩, m, i, r, j, s, k, f, v, l⟩) (hz : eqC (r26rest ⟨21, ⟨a, b, c, d, e⟩, m, i, r, j, s, k, f, v, l⟩) Control.zero = true) : chkK ⟨21, ⟨a, b, c, d, e⟩, m, i, r, j, s, k, f, v, l⟩ = refK ⟨21, ⟨a, b, c, d, e⟩, m, i, r, j, s, k, f, v, l⟩ := by
  rw [eqC_iff, rr21] at hz
  have hz : _ = (⟨0, ⟨0, 0, 0, 0, 0⟩, 0, 0, 0, 0, 0, 0, 0, 0, 0⟩ : Control) := hz
  simp only [Control.mk.injEq, Update.mk.injEq] at hz
  obtain rfl : r = 0 := by omega
  obtain rfl : j = 0 := by omega
  obtain rfl : v = 0 := by omega
  show cond (bif decide (l < 27) then true else decide (251 < l)) 5 0 = cond (bif bif bif !r26isByte 0 then true else !r26isByte 0 then true else !r26isByte 0 then true else bif true then bif decide (l < (27 : Int)) then true else decide ((251 : Int) < l) else false) 5 0
  generalize (bif decide (l < 27) then true else decide (251 < l)) = B
  cases B <;> rfl
theorem en21 : cEncode ⟨21, ⟨a, b, c, d, e⟩, m, i, r, j, s, k, f, v, l⟩ = cond (cCheck ⟨21, ⟨a, b, c, d, e⟩, m, i, r, j, s, k, f, v, l⟩ != 0) ([], cCheck ⟨21, ⟨a, b, c, d, e⟩, m, i, r, j, s, k, f, v, l⟩) (oPut (⟨1, IntKind.wrap .u64 21⟩ :: zipF (szK 21) (valK ⟨21, ⟨a, b, c, d, e⟩, m, i, r, j, s, k, f, v, l⟩))) := by kernel_rfl
end
theorem cCheck_known (c : Control) (h : known c.Kind = true) : cCheck c = cond (!eqC (setK c.Kind (valK c)) c) 1 (chkK c) := by
  obtain ⟨q, ⟨a, b, c, d, e⟩, m, i, r, j, s, k, f, v, l⟩ := c
  dsimp only at h ⊢
  rcases known_cases h with rfl | rfl | rfl | rfl | rfl | rfl | rfl | rfl | rfl | rfl | rfl | rfl | rfl | rfl | rfl | rfl | rfl
  · exact ck0 _ _ _ _ _ _ _ _ _ _ _ _ _ _
  · exact ck1 _ _ _ _ _ _ _ _ _ _ _ _ _ _
  · exact ck2 _ _ _ _ _ _ _ _ _ _ _ _ _ _
  · exact ck3 _ _ _ _ _ _ _ _ _ _ _ _ _ _
  · exact ck4 _ _ _ _ _ _ _ _ _ _ _ _ _ _
  · exact ck5 _ _ _ _ _ _ _ _ _ _ _ _ _ _
  · exact ck6 _ _ _ _ _ _ _ _ _ _ _ _ _ _
  · exact ck7 _ _ _ _ _ _ _ _ _ _ _ _ _ _
  · exact ck8 _ _ _ _ _ _ _ _ _ _ _ _ _ _
  · exact ck9 _ _ _ _ _ _ _ _ _ _ _ _ _ _
  · exact ck12 _ _ _ _ _ _ _ _ _ _ _ _ _ _
  · exact ck13 _ _ _ _ _ _ _ _ _ _ _ _ _ _
  · exact ck15 _ _ _ _ _ _ _ _ _ _ _ _ _ _
  · exact ck18 _ _ _ _ _ _ _ _ _ _ _ _ _ _
  · exact ck19 _ _ _ _ _ _ _ _ _ _ _ _ _ _
  · exact ck20 _ _ _ _ _ _ _ _ _ _ _ _ _ _
  · exact ck21 _ _ _ _ _ _ _ _ _ _ _ _ _ _
theorem r26Check_known (c : Control) (h : known c.Kind = true) : r26Check c = cond (!eqC (r26rest c) Control.zero) 1 (refK c) := by
  obtain ⟨q, ⟨a, b, c, d, e⟩, m, i, r, j, s, k, f, v, l⟩ := c
  dsimp only at h ⊢
  rcases known_cases h with rfl | rfl | rfl | rfl | rfl | rfl | rfl | rfl | rfl | rfl | rfl | rfl | rfl | rfl | rfl | rfl | rfl
  · exact rk0 _ _ _ _ _ _ _ _ _ _ _ _ _ _
  · exact rk1 _ _ _ _ _ _ _ _ _ _ _ _ _ _
  · exact rk2 _ _ _ _ _ _ _ _ _ _ _ _ _ _
  · exact rk3 _ _ _ _ _ _ _ _ _ _ _ _ _ _
  · exact rk4 _ _ _ _ _ _ _ _ _ _ _ _ _ _
  · exact rk5 _ _ _ _ _ _ _ _ _ _ _ _ _ _
  · exact rk6 _ _ _ _ _ _ _ _ _ _ _ _ _ _
  · exact rk7 _ _ _ _ _ _ _ _ _ _ _ _ _ _
  · exact rk8 _ _ _ _ _ _ _ _ _ _ _ _ _ _
  · exact rk9 _ _ _ _ _ _ _ _ _ _ _ _ _ _
  · exact rk12 _ _ _ _ _ _ _ _ _ _ _ _ _ _
  · exact rk13 _ _ _ _ _ _ _ _ _ _ _ _ _ _
  · exact rk15 _ _ _ _ _ _ _ _ _ _ _ _ _ _
  · exact rk18 _ _ _ _ _ _ _ _ _ _ _ _ _ _
  · exact rk19 _ _ _ _ _ _ _ _ _ _ _ _ _ _
  · exact rk20 _ _ _ _ _ _ _ _ _ _ _ _ _ _
  · exact rk21 _ _ _ _ _ _ _ _ _ _ _ _ _ _
theorem ez_known (c : Control) (h : known c.Kind = true) (hc : c.has) : eqC (setK c.Kind (valK c)) c = eqC (r26rest c) Control.zero := by
  obtain ⟨q, ⟨a, b, c, d, e⟩, m, i, r, j, s, k, f, v, l⟩ := c
  dsimp only at h ⊢
  rcases known_cases h with rfl | rfl | rfl | rfl | rfl | rfl | rfl | rfl | rfl | rfl | rfl | rfl | rfl | rfl | rfl | rfl | rfl
  · exact ez0 _ _ _ _ _ _ _ _ _ _ _ _ _ _ hc
  · exact ez1 _ _ _ _ _ _ _ _ _ _ _ _ _ _ hc
  · exact ez2 _ _ _ _ _ _ _ _ _ _ _ _ _ _ hc
  · exact ez3 _ _ _ _ _ _ _ _ _ _ _ _ _ _ hc
  · exact ez4 _ _ _ _ _ _ _ _ _ _ _ _ _ _ hc
  · exact ez5 _ _ _ _ _ _ _ _ _ _ _ _ _ _ hc
  · exact ez6 _ _ _ _ _ _ _ _ _ _ _ _ _ _ hc
  · exact ez7 _ _ _ _ _ _ _ _ _ _ _ _ _ _ hc
  · exact ez8 _ _ _ _ _ _ _ _ _ _ _ _ _ _ hc
  · exact ez9 _ _ _ _ _ _ _ _ _ _ _ _ _ _ hc
  · exact ez12 _ _ _ _ _ _ _ _ _ _ _ _ _ _ hc
  · exact ez13 _ _ _ _ _ _ _ _ _ _ _ _ _ _ hc
  · exact ez15 _ _ _ _ _ _ _ _ _ _ _ _ _ _ hc
  · exact ez18 _ _ _ _ _ _ _ _ _ _ _ _ _ _ hc
  · exact ez19 _ _ _ _ _ _ _ _ _ _ _ _ _ _ hc
  · exact ez20 _ _ _ _ _ _ _ _ _ _ _ _ _ _ hc
  · exact ez21 _ _ _ _ _ _ _ _ _ _ _ _ _ _ hc
theorem fk_known (c : Control) (h : known c.Kind = true) (hc : c.has) (hz : eqC (r26rest c) Control.zero = true) : chkK c = refK c := by
  obtain ⟨q, ⟨a, b, c, d, e⟩, m, i, r, j, s, k, f, v, l⟩ := c
  dsimp only at h
  rcases known_cases h with rfl | rfl | rfl | rfl | rfl | rfl | rfl | rfl | rfl | rfl | rfl | rfl | rfl | rfl | rfl | rfl | rfl
  · exact fk0 _ _ _ _ _ _ _ _ _ _ _ _ _ _ hc hz
  · exact fk1 _ _ _ _ _ _ _ _ _ _ _ _ _ _ hc hz
  · exact fk2 _ _ _ _ _ _ _ _ _ _ _ _ _ _ hc hz
  · exact fk3 _ _ _ _ _ _ _ _ _ _ _ _ _ _ hc hz
  · exact fk4 _ _ _ _ _ _ _ _ _ _ _ _ _ _ hc hz
  · exact fk5 _ _ _ _ _ _ _ _ _ _ _ _ _ _ hc hz
  · exact fk6 _ _ _ _ _ _ _ _ _ _ _ _ _ _ hc hz
  · exact fk7 _ _ _ _ _ _ _ _ _ _ _ _ _ _ hc hz
  · exact fk8 _ _ _ _ _ _ _ _ _ _ _ _ _ _ hc hz
  · exact fk9 _ _ _ _ _ _ _ _ _ _ _ _ _ _ hc hz
  · exact fk12 _ _ _ _ _ _ _ _ _ _ _ _ _ _ hc hz
  · exact fk13 _ _ _ _ _ _ _ _ _ _ _ _ _ _ hc hz
  · exact fk15 _ _ _ _ _ _ _ _ _ _ _ _ _ _ hc hz
  · exact fk18 _ _ _ _ _ _ _ _ _ _ _ _ _ _ hc hz
  · exact fk19 _ _ _ _ _ _ _ _ _ _ _ _ _ _ hc hz
  · exact fk20 _ _ _ _ _ _ _ _ _ _ _ _ _ _ hc hz
  · exact fk21 _ _ _ _ _ _ _ _ _ _ _ _ _ _ hc hz
theorem cEncode_known (c : Control) (h : known c.Kind = true) : cEncode c = cond (cCheck c != 0) ([], cCheck c) (oPut (⟨1, IntKind.wrap .u64 c.Kind⟩ :: zipF (szK c.Kind) (valK c))) := by
  obtain ⟨q, ⟨a, b, c, d, e⟩, m, i, r, j, s, k, f, v, l⟩ := c
  dsimp only at h ⊢
  rcases known_cases h with rfl | rfl | rfl | rfl | rfl | rfl | rfl | rfl | rfl | rfl | rfl | rfl | rfl | rfl | rfl | rfl | rfl
  · exact en0 _ _ _ _ _ _ _ _ _ _ _ _ _ _
  · exact en1 _ _ _ _ _ _ _ _ _ _ _ _ _ _
  · exact en2 _ _ _ _ _ _ _ _ _ _ _ _ _ _
  · exact en3 _ _ _ _ _ _ _ _ _ _ _ _ _ _
  · exact en4 _ _ _ _ _ _ _ _ _ _ _ _ _ _
  · exact en5 _ _ _ _ _ _ _ _ _ _ _ _ _ _
  · exact en6 _ _ _ _ _ _ _ _ _ _ _ _ _ _
  · exact en7 _ _ _ _ _ _ _ _ _ _ _ _ _ _
  · exact en8 _ _ _ _ _ _ _ _ _ _ _ _ _ _
  · exact en9 _ _ _ _ _ _ _ _ _ _ _ _ _ _
  · exact en12 _ _ _ _ _ _ _ _ _ _ _ _ _ _
  · exact en13 _ _ _ _ _ _ _ _ _ _ _ _ _ _
  · exact en15 _ _ _ _ _ _ _ _ _ _ _ _ _ _
  · exact en18 _ _ _ _ _ _ _ _ _ _ _ _ _ _
  · exact en19 _ _ _ _ _ _ _ _ _ _ _ _ _ _
  · exact en20 _ _ _ _ _ _ _ _ _ _ _ _ _ _
  · exact en21 _ _ _ _ _ _ _ _ _ _ _ _ _ _
theorem cCheck_unknown (c : Control) (h : known c.Kind = false) : cCheck c = 12 := by
  obtain ⟨e0, e1, e2, e3, e4, e5, e6, e7, e8, e9, e12, e13, e15, e18, e19, e20, e21⟩ := known_not h
  unfold cCheck
  simp only [e0, e1, e2, e3, e4, e5, e6, e7, e8, e9, e12, e13, e15, e18, e19, e20, e21, cond_false]
theorem r26Check_unknown (c : Control) (h : known c.Kind = false) : r26Check c = 12 := by
  obtain ⟨e0, e1, e2, e3, e4, e5, e6, e7, e8, e9, e12, e13, e15, e18, e19, e20, e21⟩ := known_not h
  unfold r26Check
  simp only [e0, e1, e2, e3, e4, e5, e6, e7, e8, e9, e12, e13, e15, e18, e19, e20, e21, cond_false]
theorem check_eq (c : Control) (hc : c.has) : cCheck c = r26Check c := by
  cases h : known c.Kind
  · rw [cCheck_unknown c h, r26Check_unknown c h]
  · rw [cCheck_known c h, r26Check_known c h, ez_known c h hc]
    cases hz : eqC (r26rest c) Control.zero
    · rfl
    · rw [fk_known c h hc hz]
theorem cCheck_ok {c : Control} (hz : cCheck c = 0) : known c.Kind = true ∧ setK c.Kind (valK c) = c ∧ chkK c = 0 := by
  cases h : known c.Kind
  · rw [cCheck_unknown c h] at hz; exact absurd hz (by decide)
  · rw [cCheck_known c h] at hz
    cases he : eqC (setK c.Kind (valK c)) c
    · rw [he] at hz; exact absurd (show (1 : Int) = 0 from hz) (by decide)
    · rw [he] at hz
      exact ⟨rfl, (eqC_iff _ _).mp he, hz⟩
theorem ctrlpduChecks_true (c : Control) (b0 : c.has) : ctrlpduChecks c = true := by
  unfold ctrlpduChecks
  rw [ex26_true, check_eq c b0]
  simp
end Go.Aw.W
