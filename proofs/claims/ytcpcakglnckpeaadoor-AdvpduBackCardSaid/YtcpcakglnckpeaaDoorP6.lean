/- The laws of chapter 19: what a valid PDU is, its bytes and their number. -/
import Derived.Test.YtcpcakglnckpeaaDoorP5
set_option linter.unusedVariables false
set_option maxRecDepth 4000
namespace Go.Aw.W
open Go Go.Aw Go.Proofs
def tgt (p : AdvPDU) : List Int := bif hasTarget p.Kind then p.Target.Kind :: num8 6 p.Target.Bits else []
def cnn (p : AdvPDU) : List Int := bif p.Kind == (5 : Int) then (cEncode p.Conn).1 else []
def pay (p : AdvPDU) : List Int := (p.Sender.Kind :: num8 6 p.Sender.Bits) ++ (tgt p ++ (cnn p ++ p.Data))
structure Ok19 (p : AdvPDU) : Prop where
  kind : 0 ≤ p.Kind ∧ p.Kind ≤ 6
  snd : aCheck p.Sender = 0
  tgt : hasTarget p.Kind = true → aCheck p.Target = 0
  notgt : hasTarget p.Kind = false → p.Target = Address.zero
  data : hasData p.Kind = true → p.Data.length ≤ 31
  nodata : hasData p.Kind = false → p.Data = []
  conn : (p.Kind == (5 : Int)) = true → cCheck p.Conn = 0
  noconn : (p.Kind == (5 : Int)) = false → p.Conn = ConnParams.zero
def tail19 (p : AdvPDU) : Int := cond (bif hasData p.Kind then decide ((31 : Int) < (p.Data.length : Int)) else false) 4 (cond (bif !hasData p.Kind then decide ((0 : Int) < (p.Data.length : Int)) else false) 1 (cond (p.Kind == (5 : Int)) (r17Check p.Conn) (cond (!(p.Conn.Access == (0 : Int) && (p.Conn.Init == (0 : Int) && (p.Conn.Update.WinSize == (0 : Int) && (p.Conn.Update.WinOffset == (0 : Int) && (p.Conn.Update.Interval == (0 : Int) && (p.Conn.Update.Latency == (0 : Int) && (p.Conn.Update.Timeout == (0 : Int) && (p.Conn.Map == (0 : Int) && (p.Conn.Hop == (0 : Int) && (p.Conn.PPM == (0 : Int) && p.Conn.Algorithm == (0 : Int)))))))))))) 1 0)))
theorem check_form (p : AdvPDU) : r19Check p = cond (bif decide (p.Kind < (0 : Int)) then true else decide ((6 : Int) < p.Kind)) 12 (cond (r8Check p.Sender != (0 : Int)) (r8Check p.Sender) (cond (hasTarget p.Kind) (cond (r8Check p.Target != (0 : Int)) (r8Check p.Target) (tail19 p)) (cond (!(p.Target.Kind == (0 : Int) && p.Target.Bits == (0 : Int))) 1 (tail19 p)))) := rfl
theorem zero_conn (c : ConnParams) : (!(c.Access == (0 : Int) && (c.Init == (0 : Int) && (c.Update.WinSize == (0 : Int) && (c.Update.WinOffset == (0 : Int) && (c.Update.Interval == (0 : Int) && (c.Update.Latency == (0 : Int) && (c.Update.Timeout == (0 : Int) && (c.Map == (0 : Int) && (c.Hop == (0 : Int) && (c.PPM == (0 : Int) && c.Algorithm == (0 : Int)))))))))))) = false ↔ c = ConnParams.zero := by
  obtain ⟨a, b, ⟨c1, c2, c3, c4, c5⟩, d, e, f, g⟩ := c
  simp [ConnParams.zero, Update.zero]
  intro _ _
  exact ⟨fun ⟨x1, x2, x3, x4, x5, x6⟩ => ⟨⟨x1, x2, x3, x4, x5⟩, x6⟩, fun ⟨⟨x1, x2, x3, x4, x5⟩, x6⟩ => ⟨x1, x2, x3, x4, x5, x6⟩⟩
theorem zero_addr (a : Address) : (!(a.Kind == (0 : Int) && a.Bits == (0 : Int))) = false ↔ a = Address.zero := by
  obtain ⟨a, b⟩ := a
  simp [Address.zero]
theorem cond_z {b : Bool} {x y : Int} (hx : x ≠ 0) : cond b x y = 0 ↔ b = false ∧ y = 0 := by
  cases b <;> simp [hx]
theorem cond_e {x y : Int} : cond (x != (0 : Int)) x y = 0 ↔ x = 0 ∧ y = 0 := by
  by_cases h : x = 0
  · simp [h]
  · rw [ne_true h]; simp [h]
theorem tail_iff (p : AdvPDU) : tail19 p = 0 ↔ (hasData p.Kind = true → p.Data.length ≤ 31) ∧ (hasData p.Kind = false → p.Data = []) ∧ ((p.Kind == (5 : Int)) = true → r17Check p.Conn = 0) ∧ ((p.Kind == (5 : Int)) = false → p.Conn = ConnParams.zero) := by
  unfold tail19
  rw [cond_z (by decide), cond_z (by decide)]
  have h1 : (bif hasData p.Kind then decide ((31 : Int) < (p.Data.length : Int)) else false) = false ↔ (hasData p.Kind = true → p.Data.length ≤ 31) := by
    cases hasData p.Kind
    · simp
    · simp; omega
  have h2 : (bif !hasData p.Kind then decide ((0 : Int) < (p.Data.length : Int)) else false) = false ↔ (hasData p.Kind = false → p.Data = []) := by
    cases hasData p.Kind
    · simp
    · simp
  rw [h1, h2]
  have h3 : (cond (p.Kind == (5 : Int)) (r17Check p.Conn) (cond (!(p.Conn.Access == (0 : Int) && (p.Conn.Init == (0 : Int) && (p.Conn.Update.WinSize == (0 : Int) && (p.Conn.Update.WinOffset == (0 : Int) && (p.Conn.Update.Interval == (0 : Int) && (p.Conn.Update.Latency == (0 : Int) && (p.Conn.Update.Timeout == (0 : Int) && (p.Conn.Map == (0 : Int) && (p.Conn.Hop == (0 : Int) && (p.Conn.PPM == (0 : Int) && p.Conn.Algorithm == (0 : Int)))))))))))) 1 0)) = 0 ↔ ((p.Kind == (5 : Int)) = true → r17Check p.Conn = 0) ∧ ((p.Kind == (5 : Int)) = false → p.Conn = ConnParams.zero) := by
    cases (p.Kind == (5 : Int))
    · rw [cond_false, cond_z (by decide), zero_conn]; simp
    · simp
  rw [h3]
structure Has19 (p : AdvPDU) : Prop where
  s : HasA p.Sender
  t : HasA p.Target
  c : HasP p.Conn
theorem has19 {p : AdvPDU} (h : p.has) : Has19 p := ⟨hasA h.2.1, hasA h.2.2.1, hasP h.2.2.2.2⟩
theorem pCheck_eq2 (p : AdvPDU) (h : Has19 p) : pCheck p = r19Check p := by
  unfold pCheck r19Check
  rw [form_known, form_target, form_data, form_conn, aCheck_eq _ h.s, aCheck_eq _ h.t, check_same _ h.c.map, Bool.not_not]
theorem check_iff (p : AdvPDU) (h : Has19 p) : pCheck p = 0 ↔ Ok19 p := by
  rw [pCheck_eq2 p h]
  obtain ⟨h1, h2, h4⟩ := h
  rw [check_form, cond_z (by decide), cond_e]
  have hk : (bif decide (p.Kind < (0 : Int)) then true else decide ((6 : Int) < p.Kind)) = false ↔ 0 ≤ p.Kind ∧ p.Kind ≤ 6 := by
    by_cases a : p.Kind < 0
    · simp [a]; omega
    · simp [a]; omega
  rw [hk, ← aCheck_eq _ h1]
  cases ht : hasTarget p.Kind
  · rw [cond_false, cond_z (by decide), zero_addr, tail_iff]
    constructor
    · rintro ⟨a1, a2, a3, a4, a5, a6, a7⟩
      exact ⟨a1, a2, fun e => absurd (ht.symm.trans e) (by decide), fun _ => a3, a4, a5, fun e => (check_same _ h4.map).trans (a6 e), a7⟩
    · intro o
      exact ⟨o.kind, o.snd, o.notgt ht, o.data, o.nodata, fun e => (check_same _ h4.map).symm.trans (o.conn e), o.noconn⟩
  · rw [cond_true, cond_e, tail_iff, ← aCheck_eq _ h2]
    constructor
    · rintro ⟨a1, a2, a3, a4, a5, a6, a7⟩
      exact ⟨a1, a2, fun _ => a3, fun e => absurd (ht.symm.trans e) (by decide), a4, a5, fun e => (check_same _ h4.map).trans (a6 e), a7⟩
    · intro o
      exact ⟨o.kind, o.snd, o.tgt ht, o.data, o.nodata, fun e => (check_same _ h4.map).symm.trans (o.conn e), o.noconn⟩
theorem pEncode_ok (p : AdvPDU) (h : Has19 p) (o : Ok19 p) : pEncode p = ([pHead p, IntKind.wrap IntKind.u8 ((pay p).length : Int)] ++ pay p, 0) := by
  have hz := (check_iff p h).2 o
  obtain ⟨h1, h2, h4⟩ := h
  have es : (aEncode p.Sender).1 = p.Sender.Kind :: num8 6 p.Sender.Bits := by rw [aEncode_ok _ h1 o.snd]
  unfold pEncode
  rw [hz, form_target, form_conn, es]
  unfold pay tgt cnn
  cases ht : hasTarget p.Kind
  · cases h5 : (p.Kind == (5 : Int))
    · rfl
    · simp only [cond_true, cond_false, bne_self_eq_false, List.append_assoc, List.nil_append]
  · have et : (aEncode p.Target).1 = p.Target.Kind :: num8 6 p.Target.Bits := by rw [aEncode_ok _ h2 (o.tgt ht)]
    rw [et]
    cases h5 : (p.Kind == (5 : Int))
    · simp only [cond_true, cond_false, bne_self_eq_false, List.append_assoc, List.nil_append]
    · simp only [cond_true, cond_false, bne_self_eq_false, List.append_assoc]
theorem pEncode_err (p : AdvPDU) (h : pCheck p ≠ 0) : pEncode p = ([], pCheck p) := by
  unfold pEncode; rw [ne_true h]; rfl
theorem kind_excl (k : Int) : hasData k = true → hasTarget k = false ∧ (k == (5 : Int)) = false := by
  unfold hasData hasTarget
  by_cases h : 0 ≤ k ∧ k ≤ 6
  · rcases (by omega : k = 0 ∨ k = 1 ∨ k = 2 ∨ k = 3 ∨ k = 4 ∨ k = 5 ∨ k = 6) with rfl | rfl | rfl | rfl | rfl | rfl | rfl <;> decide
  · obtain ⟨e0, e1, e2, e3, e4, e5, e6⟩ := kinds_out h
    simp only [e0, e1, e2, e3, e4, e5, e6]; decide
theorem cEncode_size (c : ConnParams) (hc : HasP c) (h : cCheck c = 0) : (cEncode c).1.length = 25 := by
  rw [encode_ok c hc h]
  have hk := okFields c hc (check_ok c ((check_same c hc.2.2.2).symm.trans h))
  have hl := put_len _ hk
  have e : ((r17fields c).map (·.Size)).sum = 25 := by show sz17.sum = 25; decide
  rw [e] at hl
  dsimp only at hl ⊢
  omega
theorem pay_len (p : AdvPDU) (h : Has19 p) (o : Ok19 p) : 7 ≤ (pay p).length ∧ (pay p).length ≤ 39 := by
  have hx := kind_excl p.Kind
  obtain ⟨h1, h2, h4⟩ := h
  have hs : (num8 6 p.Sender.Bits).length = 6 := num8_len _ _
  have hT : (num8 6 p.Target.Bits).length = 6 := num8_len _ _
  have hd : (tgt p).length ≤ 7 := by unfold tgt; cases hasTarget p.Kind <;> simp [hT]
  unfold pay
  simp only [List.length_append, List.length_cons, hs]
  refine ⟨by omega, ?_⟩
  cases hD : hasData p.Kind
  · rw [o.nodata hD]
    have hc : (cnn p).length ≤ 25 := by
      unfold cnn
      cases h5 : (p.Kind == (5 : Int))
      · simp
      · rw [cond_true, cEncode_size _ h4 (o.conn h5)]; exact Nat.le_refl _
    simp only [List.length_nil]; omega
  · obtain ⟨e1, e2⟩ := hx hD
    have := o.data hD
    have c0 : (cnn p).length = 0 := by unfold cnn; rw [e2]; rfl
    have t0 : (tgt p).length = 0 := by unfold tgt; rw [e1]; rfl
    omega
theorem first_low (p : AdvPDU) (o : Ok19 p) : Int.tmod (pHead p) 16 = p.Kind ∧ 0 ≤ pHead p ∧ pHead p < 256 := by
  rw [pHead_eq p o.kind.1 o.kind.2]
  have hk := o.kind
  unfold r19First
  generalize (bif hasTarget p.Kind then p.Target.Kind != (1 : Int) else false) = b
  generalize (p.Sender.Kind != (1 : Int)) = a
  generalize p.Kind = k at *
  rcases (by omega : k = 0 ∨ k = 1 ∨ k = 2 ∨ k = 3 ∨ k = 4 ∨ k = 5 ∨ k = 6) with rfl | rfl | rfl | rfl | rfl | rfl | rfl <;> cases a <;> cases b <;> decide
theorem advpduLengths_pre (p : AdvPDU) (b0 : p.has) : p.Data.length ≤ 140737488351232 := advpduChecks_pre p b0
theorem advpduLengths_true (p : AdvPDU) (b0 : p.has) : advpduLengths p = true := by
  unfold advpduLengths
  rw [own19_eq]
  by_cases hz : pCheck p = 0
  · have o := (check_iff p (has19 b0)).1 hz
    obtain ⟨l1, l2⟩ := pay_len p (has19 b0) o
    obtain ⟨f1, f2, f3⟩ := first_low p o
    rw [pEncode_ok p (has19 b0) o]
    have hk := o.kind
    have e0 : ([pHead p, IntKind.wrap IntKind.u8 ((pay p).length : Int)] ++ pay p).length = (pay p).length + 2 := by simp
    have e1 : List.getD ([pHead p, IntKind.wrap IntKind.u8 ((pay p).length : Int)] ++ pay p) (Int.toNat 1) 0 = (pay p).length := by
      show IntKind.wrap IntKind.u8 ((pay p).length : Int) = _
      rw [wu8m]; omega
    have e2 : List.getD ([pHead p, IntKind.wrap IntKind.u8 ((pay p).length : Int)] ++ pay p) (Int.toNat 0) 0 = pHead p := rfl
    dsimp only
    rw [e0, e1, e2, f1, wi64 p.Kind (by omega) (by omega), wi64 ((pay p).length : Int) (by omega) (by omega), wi64 _ (by omega) (by omega)]
    have a1 : (9 : Int) ≤ (((pay p).length + 2 : Nat) : Int) := by omega
    have a2 : (((pay p).length + 2 : Nat) : Int) ≤ 41 := by omega
    have a3 : ((pay p).length : Int) = (((pay p).length + 2 : Nat) : Int) - 2 := by omega
    rw [decide_eq_true a1, decide_eq_true a2, ← a3]
    simp
  · rw [pEncode_err p hz]
    dsimp only
    rw [ne_true hz]; rfl
end Go.Aw.W
