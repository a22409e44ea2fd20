/- The laws of chapter 19: back and forth. -/
import Derived.Test.YtcpcakglnckpeaaDoorP6
import Derived.Test.YtcpcakglnckpeaaDoorP7
set_option linter.unusedVariables false
set_option maxRecDepth 4000
namespace Go.Aw.W
open Go Go.Aw Go.Proofs
theorem decA_put (a : Address) (ha : HasA a) (hz : aCheck a = 0) (r : List Int) : decA ((a.Kind :: num8 6 a.Bits) ++ r) = (a, r, 0) := by
  obtain ⟨k1, k4, hb⟩ := aCheck_ok a ha hz
  have hl : (num8 6 a.Bits).length = 6 := num8_len _ _
  have ea : addrOf ((a.Kind :: num8 6 a.Bits) ++ r) = a := by
    have e : (((a.Kind :: num8 6 a.Bits) ++ r).drop 1).take 6 = num8 6 a.Bits := by
      show (num8 6 a.Bits ++ r).take 6 = _
      rw [List.take_append_of_le_length (by omega), List.take_of_length_le (by omega)]
    unfold addrOf
    rw [e, val8_num8, Int.emod_eq_of_lt ha.1 (by show a.Bits < 256 ^ 6; omega)]
    rfl
  have ed : ((a.Kind :: num8 6 a.Bits) ++ r).drop 7 = r := by
    show (num8 6 a.Bits ++ r).drop 6 = r
    rw [List.drop_append_of_le_length (by omega), List.drop_of_length_le (by omega), List.nil_append]
  have h7 : ¬ ((((a.Kind :: num8 6 a.Bits) ++ r).length : Nat) : Int) < 7 := by
    simp only [List.length_append, List.length_cons, hl]; omega
  unfold decA
  rw [ea, ed, hz, decide_eq_false h7]; rfl
theorem decA_ok (c : List Int) (hc : Bytes c) (h : (decA c).2.2 = 0) : 7 ≤ c.length ∧ decA c = (addrOf c, c.drop 7, 0) ∧ aCheck (addrOf c) = 0 ∧ ((addrOf c).Kind :: num8 6 (addrOf c).Bits) ++ c.drop 7 = c := by
  unfold decA at h ⊢
  by_cases hl : (c.length : Int) < 7
  · rw [decide_eq_true hl] at h; exact absurd h (by simp)
  · rw [decide_eq_false hl] at h ⊢
    by_cases hz : aCheck (addrOf c) = 0
    · refine ⟨by omega, by rw [hz]; rfl, hz, ?_⟩
      match c, hl with
      | [], hl => simp at hl
      | x :: l, hl =>
        simp only [List.length_cons] at hl
        have e1 : (l.take 6).length = 6 := by rw [List.length_take]; omega
        have e2 := num8_val8 (l.take 6) ((hc.drop 1).take 6)
        rw [e1] at e2
        show x :: (num8 6 (val8 (l.take 6)) ++ l.drop 6) = x :: l
        rw [e2, List.take_append_drop]
    · rw [ne_true hz] at h; exact absurd h hz
theorem bytes_app {a b : List Int} (ha : Bytes a) (hb : Bytes b) : Bytes (a ++ b) := fun x hx => (List.mem_append.1 hx).elim (ha x) (hb x)
theorem bytes_cons {x : Int} {b : List Int} (h0 : 0 ≤ x) (h1 : x < 256) (hb : Bytes b) : Bytes (x :: b) := fun y hy => by
  rcases List.mem_cons.1 hy with rfl | hy
  · exact ⟨h0, h1⟩
  · exact hb y hy
theorem cEncode_bytes (c : ConnParams) (hc : HasP c) (h : cCheck c = 0) : Bytes (cEncode c).1 := by
  rw [encode_ok c hc h]
  intro x hx
  obtain ⟨f, _, hf⟩ := List.mem_flatMap.1 hx
  exact num8_bytes _ _ x hf
theorem cEncode_zero2 (c : ConnParams) (hc : HasP c) (h : cCheck c = 0) : (cEncode c).2 = 0 := by rw [encode_ok c hc h]
theorem addr_bytes (a : Address) (ha : HasA a) (hz : aCheck a = 0) : Bytes (a.Kind :: num8 6 a.Bits) := by
  obtain ⟨k1, k4, hb⟩ := aCheck_ok a ha hz
  exact bytes_cons (by omega) (by omega) (num8_bytes _ _)
theorem rest_b (p : AdvPDU) (h : Has19 p) (hd : Bytes p.Data) (o : Ok19 p) : Bytes (cnn p ++ p.Data) := by
  refine bytes_app ?_ hd
  unfold cnn
  cases h5 : (p.Kind == (5 : Int))
  · exact fun x hx => absurd hx (by simp)
  · exact cEncode_bytes _ h.c (o.conn h5)
theorem tgt_b (p : AdvPDU) (h : Has19 p) (o : Ok19 p) : Bytes (tgt p) := by
  unfold tgt
  cases ht : hasTarget p.Kind
  · exact fun x hx => absurd hx (by simp)
  · exact addr_bytes _ h.t (o.tgt ht)
theorem pay_bytes (p : AdvPDU) (h : Has19 p) (hd : Bytes p.Data) (o : Ok19 p) : Bytes (pay p) :=
  bytes_app (addr_bytes _ h.s o.snd) (bytes_app (tgt_b p h o) (rest_b p h hd o))
theorem er (b : List Int) : r19Decode b = cond (decide ((b.length : Int) < 2)) (AdvPDU.zero, 3) (cond (decide ((6 : Int) < Int.tmod (b.getD 0 0) 16)) (AdvPDU.zero, 12) (cond (Int.tmod (IntKind.wrap .u8 (Int.tdiv (b.getD 0 0) 16)) 4 != 0) (AdvPDU.zero, 2)
    (cond (decide (IntKind.wrap .i64 ((b.length : Int) - 2) < IntKind.wrap .i64 (b.getD 1 0))) (AdvPDU.zero, 3) (cond (decide (IntKind.wrap .i64 (b.getD 1 0) < IntKind.wrap .i64 ((b.length : Int) - 2))) (AdvPDU.zero, 2)
    (tailP (r19Payload (IntKind.wrap .i64 (Int.tmod (b.getD 0 0) 16)) (List.drop 2 (List.take (Int.toNat (b.length : Int)) b))) (b.getD 0 0)))))) := by
  have e : r19Decode b = _ := rfl
  exact e
theorem first_mid (p : AdvPDU) (o : Ok19 p) : (Int.tmod (IntKind.wrap .u8 (Int.tdiv (r19First p) 16)) 4 != 0) = false := by
  have hk := o.kind
  unfold r19First
  generalize (bif hasTarget p.Kind then p.Target.Kind != (1 : Int) else false) = b
  generalize (p.Sender.Kind != (1 : Int)) = a
  generalize p.Kind = k at *
  rcases (by omega : k = 0 ∨ k = 1 ∨ k = 2 ∨ k = 3 ∨ k = 4 ∨ k = 5 ∨ k = 6) with rfl | rfl | rfl | rfl | rfl | rfl | rfl <;> cases a <;> cases b <;> decide
theorem payP_pay (p : AdvPDU) (h : Has19 p) (hd : Bytes p.Data) (o : Ok19 p) : payP p.Kind (pay p) = (⟨p.Kind, p.Sender, p.Target, [], ConnParams.zero⟩, cnn p ++ p.Data, 0) := by
  have e1 : r8Decode (pay p) = (p.Sender, tgt p ++ (cnn p ++ p.Data), 0) := by
    rw [r8Decode_val _ (pay_bytes p h hd o)]; exact decA_put _ h.s o.snd _
  unfold payP
  rw [e1]
  cases ht : hasTarget p.Kind
  · have et : tgt p = [] := by unfold tgt; rw [ht]; rfl
    rw [et, ← o.notgt ht]; rfl
  · have et : tgt p = p.Target.Kind :: num8 6 p.Target.Bits := by unfold tgt; rw [ht]; rfl
    have e2 : r8Decode (tgt p ++ (cnn p ++ p.Data)) = (p.Target, cnn p ++ p.Data, 0) := by
      rw [r8Decode_val _ (bytes_app (tgt_b p h o) (rest_b p h hd o)), et]; exact decA_put _ h.t (o.tgt ht) _
    dsimp only
    rw [e2]; rfl
theorem tailP_pay (p : AdvPDU) (h : Has19 p) (hd : Bytes p.Data) (o : Ok19 p) : tailP (⟨p.Kind, p.Sender, p.Target, [], ConnParams.zero⟩, cnn p ++ p.Data, 0) (r19First p) = (p, 0) := by
  have hf : r19First ⟨p.Kind, p.Sender, p.Target, [], ConnParams.zero⟩ = r19First p := rfl
  unfold tailP
  dsimp only
  rw [hf]
  simp only [bne_self_eq_false, cond_false]
  cases hD : hasData p.Kind
  · cases h5 : (p.Kind == (5 : Int))
    · have ec : cnn p = [] := by unfold cnn; rw [h5]; rfl
      have e1 := o.nodata hD
      have e2 := o.noconn h5
      rw [ec, e1]
      obtain ⟨pk, ps, pt, pd, pc⟩ := p
      subst e1; subst e2; rfl
    · have ec : cnn p = (cEncode p.Conn).1 := by unfold cnn; rw [h5]; rfl
      have e1 := o.nodata hD
      have hb := rest_b p h hd o
      rw [e1, List.append_nil] at hb ⊢
      rw [ec] at hb ⊢
      rw [← decode_same _ hb, back1 _ h.c (cEncode_zero2 _ h.c (o.conn h5))]
      obtain ⟨pk, ps, pt, pd, pc⟩ := p
      subst e1; rfl
  · obtain ⟨_, h5⟩ := kind_excl _ hD
    have ec : cnn p = [] := by unfold cnn; rw [h5]; rfl
    have e2 := o.noconn h5
    have hl := o.data hD
    rw [ec, List.nil_append, cond_true, decide_eq_false (by omega), cond_false]
    obtain ⟨pk, ps, pt, pd, pc⟩ := p
    subst e2; rfl
theorem forth (p : AdvPDU) (h : Has19 p) (hd : Bytes p.Data) (o : Ok19 p) : pDecode ([pHead p, IntKind.wrap IntKind.u8 ((pay p).length : Int)] ++ pay p) = (p, 0) := by
  obtain ⟨l1, l2⟩ := pay_len p h o
  obtain ⟨f1, f2, f3⟩ := first_low p o
  have hk := o.kind
  have eL : IntKind.wrap IntKind.u8 ((pay p).length : Int) = (pay p).length := by rw [wu8m]; omega
  rw [eL]
  show pDecode (pHead p :: ((pay p).length : Int) :: pay p) = (p, 0)
  rw [pDecode_eq _ (bytes_cons f2 f3 (bytes_cons (by omega) (by omega) (pay_bytes p h hd o))), er]
  have g0 : List.getD (pHead p :: ((pay p).length : Int) :: pay p) 0 0 = pHead p := rfl
  have g1 : List.getD (pHead p :: ((pay p).length : Int) :: pay p) 1 0 = (pay p).length := rfl
  have gl : (pHead p :: ((pay p).length : Int) :: pay p).length = (pay p).length + 2 := rfl
  have gd : List.drop 2 (List.take (Int.toNat ((pHead p :: ((pay p).length : Int) :: pay p).length : Int)) (pHead p :: ((pay p).length : Int) :: pay p)) = pay p := by
    rw [show (((pHead p :: ((pay p).length : Int) :: pay p).length : Nat) : Int).toNat = (pHead p :: ((pay p).length : Int) :: pay p).length by omega, List.take_length]; rfl
  rw [gd, g0, g1, gl, f1, wi64 p.Kind (by omega) (by omega), payP_eq, payP_pay p h hd o]
  rw [pHead_eq p hk.1 hk.2, first_mid p o, tailP_pay p h hd o, wi64 _ (by omega) (by omega), wi64 _ (by omega) (by omega)]
  rw [decide_eq_false (by omega), decide_eq_false (by omega), decide_eq_false (by omega), decide_eq_false (by omega)]
  rfl
theorem conn_back (r : List Int) (hb : Bytes r) (h : (cDecode r).2 = 0) : HasP (cDecode r).1 ∧ cCheck (cDecode r).1 = 0 ∧ (cEncode (cDecode r).1).1 = r := by
  refine ⟨?_, ?_, by rw [back2 r hb h]⟩
  · rcases decode_cases r hb with ⟨h1, _⟩ | ⟨l, h1, h2, h3, h4⟩
    · exact absurd h h1
    · obtain ⟨p1, p2, p3, p4⟩ := put_take sz17 r hb (by decide) h2 l [] h1
      have h7 := p4 7
      rw [show (256 : Int) ^ (sz17.getD 7 0).toNat = 1099511627776 from by decide] at h7
      rw [h3]; exact parse_has l (by omega)
  · exact encode_zero _ (by rw [back2 r hb h])
theorem zeroP : HasP ConnParams.zero := by unfold HasP; decide
theorem zeroA : HasA Address.zero := by unfold HasA; decide
theorem cond_pz {b : Bool} {x y : AdvPDU × Int} (hx : x.2 ≠ 0) (h : (cond b x y).2 = 0) : b = false ∧ y.2 = 0 ∧ cond b x y = y := by
  cases b
  · exact ⟨rfl, h, rfl⟩
  · exact absurd h hx
/-- What is read of a payload. -/
theorem tail_back (q : AdvPDU) (r : List Int) (hd : Int) (hr : Bytes r) (hq : Has19 q) (e0 : q.Data = []) (ec : q.Conn = ConnParams.zero) (hk : 0 ≤ q.Kind ∧ q.Kind ≤ 6) (hs : aCheck q.Sender = 0) (ht : hasTarget q.Kind = true → aCheck q.Target = 0) (hn : hasTarget q.Kind = false → q.Target = Address.zero)
    (h : (tailP (q, r, 0) hd).2 = 0) : Ok19 (tailP (q, r, 0) hd).1 ∧ Has19 (tailP (q, r, 0) hd).1 ∧ (tailP (q, r, 0) hd).1.Kind = q.Kind ∧ (tailP (q, r, 0) hd).1.Sender = q.Sender ∧ (tailP (q, r, 0) hd).1.Target = q.Target ∧ cnn (tailP (q, r, 0) hd).1 ++ (tailP (q, r, 0) hd).1.Data = r ∧ r19First q = hd := by
  have hx := kind_excl q.Kind
  unfold tailP at h ⊢
  dsimp only at h ⊢
  simp only [bne_self_eq_false, cond_false] at h ⊢
  obtain ⟨c1, h, e⟩ := cond_pz (by decide) h
  have hf : r19First q = hd := by simpa using c1
  rw [e]; clear e
  cases hD : hasData q.Kind
  · rw [hD, cond_false] at h
    rw [cond_false]
    cases h5 : (q.Kind == (5 : Int))
    · rw [h5, cond_false] at h
      rw [cond_false]
      obtain ⟨c2, h, e⟩ := cond_pz (by decide) h
      rw [e]
      have hr0 : r = [] := List.eq_nil_of_length_eq_zero (by have := of_decide_eq_false c2; omega)
      subst hr0
      refine ⟨⟨hk, hs, ht, hn, fun e => absurd (hD.symm.trans e) (by decide), fun _ => e0, fun e => absurd (h5.symm.trans e) (by decide), fun _ => ec⟩, hq, rfl, rfl, rfl, ?_, hf⟩
      unfold cnn; dsimp only; rw [h5, e0]; rfl
    · rw [h5, cond_true] at h
      rw [cond_true]
      by_cases hz : (r17Decode r).2 = 0
      · rw [hz]
        simp only [bne_self_eq_false, cond_false]
        rw [← decode_same r hr] at hz ⊢
        obtain ⟨k1, k2, k3⟩ := conn_back r hr hz
        refine ⟨⟨hk, hs, ht, hn, fun e => absurd (hD.symm.trans e) (by decide), fun _ => e0, fun _ => k2, fun e => absurd (h5.symm.trans e) (by decide)⟩, ⟨hq.s, hq.t, k1⟩, (by first | rfl | trivial), (by first | rfl | trivial), (by first | rfl | trivial), ?_, hf⟩
        unfold cnn; dsimp only; rw [h5, cond_true, k3, e0, List.append_nil]
      · rw [ne_true hz] at h; exact absurd h hz
  · rw [hD, cond_true] at h
    rw [cond_true]
    obtain ⟨x1, x2⟩ := hx hD
    obtain ⟨c2, h, e⟩ := cond_pz (by decide) h
    rw [e]
    have hl := of_decide_eq_false c2
    refine ⟨⟨hk, hs, ht, hn, fun _ => by dsimp only; omega, fun e => absurd (hD.symm.trans e) (by decide), fun e => absurd (x2.symm.trans e) (by decide), fun _ => ec⟩, ⟨hq.s, hq.t, hq.c⟩, rfl, rfl, rfl, ?_, hf⟩
    unfold cnn; dsimp only; rw [x2]; rfl
theorem back19 (b : List Int) (hb : Bytes b) (hl : b.length ≤ 140737488351232) (h : (pDecode b).2 = 0) : Has19 (pDecode b).1 ∧ Ok19 (pDecode b).1 ∧ pEncode (pDecode b).1 = (b, 0) := by
  rw [pDecode_eq b hb, er] at h ⊢
  obtain ⟨c1, h, e⟩ := cond_pz (by decide) h
  rw [e]; clear e
  obtain ⟨c2, h, e⟩ := cond_pz (by decide) h
  rw [e]; clear e
  obtain ⟨c3, h, e⟩ := cond_pz (by decide) h
  rw [e]; clear e
  obtain ⟨c4, h, e⟩ := cond_pz (by decide) h
  rw [e]; clear e
  obtain ⟨c5, h, e⟩ := cond_pz (by decide) h
  rw [e]; clear e
  have c1 := of_decide_eq_false c1
  have c2 := of_decide_eq_false c2
  have c4 := of_decide_eq_false c4
  have c5 := of_decide_eq_false c5
  match b, c1 with
  | [], c1 => simp at c1
  | [x], c1 => simp at c1
  | hd :: L :: c, c1 =>
  have hd0 := hb hd (by simp)
  have hL0 := hb L (by simp)
  have hc : Bytes c := fun x hx => hb x (by simp [hx])
  have gl : (hd :: L :: c).length = c.length + 2 := rfl
  rw [gl] at hl
  have gd : List.drop 2 (List.take (Int.toNat ((hd :: L :: c).length : Int)) (hd :: L :: c)) = c := by
    rw [show (((hd :: L :: c).length : Nat) : Int).toNat = (hd :: L :: c).length by omega, List.take_length]; rfl
  have g0 : List.getD (hd :: L :: c) 0 0 = hd := rfl
  have g1 : List.getD (hd :: L :: c) 1 0 = L := rfl
  rw [gl, g1, wi64 _ (by omega) (by omega), wi64 _ (by omega) (by omega)] at c4 c5
  have hLe : L = c.length := by omega
  rw [g0, Int.tmod_eq_emod_of_nonneg hd0.1] at c2
  rw [gd, g0, Int.tmod_eq_emod_of_nonneg hd0.1, wi64 _ (by omega) (by omega), payP_eq] at h ⊢
  generalize hk : hd % 16 = k at *
  have k0 : 0 ≤ k := by omega
  -- the payload
  have key : ∃ q r, payP k c = (q, r, 0) ∧ Bytes r ∧ Has19 q ∧ q.Data = [] ∧ q.Conn = ConnParams.zero ∧ q.Kind = k ∧ aCheck q.Sender = 0 ∧ (hasTarget k = true → aCheck q.Target = 0) ∧ (hasTarget k = false → q.Target = Address.zero) ∧ (q.Sender.Kind :: num8 6 q.Sender.Bits) ++ (tgt q ++ r) = c := by
    have hz : (payP k c).2.2 = 0 := by
      by_cases hz : (payP k c).2.2 = 0
      · exact hz
      · unfold tailP at h
        rw [ne_true hz] at h; exact absurd h hz
    unfold payP at hz ⊢
    rw [r8Decode_val c hc] at hz ⊢
    by_cases z1 : (decA c).2.2 = 0
    · obtain ⟨a1, a2, a3, a4⟩ := decA_ok c hc z1
      rw [a2] at hz ⊢
      cases ht : hasTarget k
      · exact ⟨_, _, rfl, hc.drop 7, ⟨addr_has c hc, zeroA, zeroP⟩, rfl, rfl, rfl, a3, fun e => absurd e (by decide), fun _ => rfl, by unfold tgt; dsimp only; rw [ht]; exact a4⟩
      · rw [ht] at hz
        simp only [bne_self_eq_false, cond_false, cond_true] at hz ⊢
        have hc7 := hc.drop 7
        rw [r8Decode_val _ hc7] at hz ⊢
        by_cases z2 : (decA (c.drop 7)).2.2 = 0
        · obtain ⟨b1, b2, b3, b4⟩ := decA_ok _ hc7 z2
          rw [b2] at hz ⊢
          refine ⟨_, _, rfl, hc7.drop 7, ⟨addr_has c hc, addr_has _ hc7, zeroP⟩, rfl, rfl, rfl, a3, fun _ => b3, fun e => absurd e (by decide), ?_⟩
          unfold tgt; dsimp only; rw [ht, cond_true, b4]; exact a4
        · rw [ne_true z2] at hz; exact absurd hz z2
    · rw [ne_true z1] at hz; exact absurd hz z1
  obtain ⟨q, r, e, hr, hq, d0, dc, dk, ds, dt, dn, dd⟩ := key
  rw [e] at h ⊢
  subst dk
  obtain ⟨o, hh, t1, t2, t3, t4, t5⟩ := tail_back q r hd hr hq d0 dc ⟨k0, by omega⟩ ds dt dn h
  refine ⟨hh, o, ?_⟩
  generalize (tailP (q, r, 0) hd).1 = z at *
  have ep : pay z = c := by
    unfold pay
    have et : tgt z = tgt q := by unfold tgt; rw [t1, t3]
    rw [t4, et, t2]; exact dd
  have eh : pHead z = hd := by
    rw [pHead_eq z o.kind.1 o.kind.2, ← t5]
    unfold r19First; rw [t1, t2, t3]
  rw [pEncode_ok z hh o, ep, eh, wu8m, Int.emod_eq_of_lt (by omega) (by omega), ← hLe]
  rfl
theorem advpduBack_pre (p : AdvPDU) (b : List Int) (b0 : p.has) (b1 : (∀ y ∈ b, IntKind.has .u8 y) ∧ b.length * 1 ≤ 140737488351232) : p.Data.length ≤ 140737488351232 ∧ b.length ≤ 140737488351232 := ⟨advpduChecks_pre p b0, by omega⟩
theorem same_zero : r19Same AdvPDU.zero AdvPDU.zero = true := r19Same_refl _
theorem advpduBack_true (p : AdvPDU) (b : List Int) (b0 : p.has) (b1 : (∀ y ∈ b, IntKind.has .u8 y) ∧ b.length * 1 ≤ 140737488351232) : advpduBack p b = true := by
  have hb := has_bytes b1.1
  have key : cond ((pDecode ([] ++ b)).2 != 0) (r19Same (pDecode ([] ++ b)).1 AdvPDU.zero) (bif bif (pEncode (pDecode ([] ++ b)).1).2 == (0 : Int) then r2Same (pEncode (pDecode ([] ++ b)).1).1 b else false then pCheck (pDecode ([] ++ b)).1 == (0 : Int) else false) = true := by
    rw [List.nil_append]
    by_cases hz : (pDecode b).2 = 0
    · obtain ⟨h1, h2, h3⟩ := back19 b hb (by omega) hz
      rw [hz, h3, (check_iff _ h1).2 h2, r2Same_refl]; rfl
    · rw [ne_true hz, cond_true]
      have : (pDecode b).1 = AdvPDU.zero := by
        rw [pDecode_fin] at hz ⊢
        unfold finP at hz ⊢
        by_cases h2 : (pDecode0 b).2 = 0
        · rw [h2] at hz; exact absurd rfl hz
        · rw [ne_true h2]; rfl
      rw [this, same_zero]
  have hp := has19 b0
  have hd : Bytes p.Data := has_bytes b0.2.2.2.1.1
  unfold advpduBack
  rw [own19_eq]
  by_cases hz : pCheck p = 0
  · have o := (check_iff p hp).1 hz
    rw [pEncode_ok p hp o, forth p hp hd o, hz]
    dsimp only
    rw [r19Same_refl]
    exact key
  · rw [pEncode_err p hz]
    dsimp only
    have e1 : (pCheck p == (0 : Int)) = false := by simp [hz]
    rw [e1]
    exact key
end Go.Aw.W
