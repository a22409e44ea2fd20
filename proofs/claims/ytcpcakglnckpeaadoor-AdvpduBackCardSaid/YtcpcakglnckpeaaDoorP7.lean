/- The laws of chapter 19: decoding. -/
import Derived.Test.YtcpcakglnckpeaaDoorP5
set_option linter.unusedVariables false
set_option maxRecDepth 4000
namespace Go.Aw.W
open Go Go.Aw Go.Proofs
def finP (x : AdvPDU × Int) : AdvPDU × Int := cond (x.2 != 0) (AdvPDU.zero, x.2) (x.1, 0)
theorem pDecode_fin (b : List Int) : pDecode b = finP (pDecode0 b) := rfl
theorem finP_err (p : AdvPDU) {e : Int} (h : e ≠ 0) : finP (p, e) = (AdvPDU.zero, e) := by unfold finP; rw [ne_true h]; rfl
def tailP (x : AdvPDU × List Int × Int) (h : Int) : AdvPDU × Int :=
  cond (x.2.2 != 0) (AdvPDU.zero, x.2.2) (cond (r19First x.1 != h) (AdvPDU.zero, 2) (cond (hasData x.1.Kind) (cond (decide ((31 : Int) < (x.2.1.length : Int))) (AdvPDU.zero, 4) ({ x.1 with Data := x.2.1 }, 0))
    (cond (x.1.Kind == 5) (cond ((r17Decode x.2.1).2 != 0) (AdvPDU.zero, (r17Decode x.2.1).2) ({ x.1 with Conn := (r17Decode x.2.1).1 }, 0)) (cond (decide ((0 : Int) < (x.2.1.length : Int))) (AdvPDU.zero, 2) (x.1, 0)))))
def core1 (k h : Int) (s t : Address) (r : List Int) (e : Int) : AdvPDU × Int :=
  cond (pHead ⟨k, s, t, [], ConnParams.zero⟩ != h) (⟨k, s, t, [], ConnParams.zero⟩, 2) (cond (aForm k).conn (⟨k, s, t, [], (cDecode r).1⟩, (cDecode r).2) (cond (bif (aForm k).data then decide ((31 : Int) < (r.length : Int)) else false) (⟨k, s, t, [], ConnParams.zero⟩, 4) (cond (aForm k).data (⟨k, s, t, bClone r, ConnParams.zero⟩, e) (cond (decide ((0 : Int) < (r.length : Int))) (⟨k, s, t, [], ConnParams.zero⟩, 2) (⟨k, s, t, [], ConnParams.zero⟩, e)))))
def core0 (k h : Int) (c : List Int) : AdvPDU × Int :=
  cond ((aDecode c).2.2 != 0) (⟨k, (aDecode c).1, Address.zero, [], ConnParams.zero⟩, (aDecode c).2.2)
    (cond (aForm k).target
      (cond ((aDecode (aDecode c).2.1).2.2 != 0) (⟨k, (aDecode c).1, (aDecode (aDecode c).2.1).1, [], ConnParams.zero⟩, (aDecode (aDecode c).2.1).2.2)
        (core1 k h (aDecode c).1 (aDecode (aDecode c).2.1).1 (aDecode (aDecode c).2.1).2.1 (aDecode (aDecode c).2.1).2.2))
      (core1 k h (aDecode c).1 Address.zero (aDecode c).2.1 (aDecode c).2.2))
theorem core1_eq (k h : Int) (s t : Address) (r : List Int) (k0 : 0 ≤ k) (k6 : k ≤ 6) (hr : Bytes r) : finP (core1 k h s t r 0) = tailP (⟨k, s, t, [], ConnParams.zero⟩, r, 0) h := by
  unfold core1 tailP
  rw [pHead_eq _ k0 k6, decode_same r hr, form_conn, form_data]
  dsimp only
  have hx : hasData k = true → (k == (5 : Int)) = false := by
    rcases (by omega : k = 0 ∨ k = 1 ∨ k = 2 ∨ k = 3 ∨ k = 4 ∨ k = 5 ∨ k = 6) with rfl | rfl | rfl | rfl | rfl | rfl | rfl <;> decide
  generalize hasData k = d at *
  generalize (k == (5 : Int)) = f at *
  generalize (r19First _ != h) = x
  cases d
  · cases f
    · cases x
      · generalize decide ((0 : Int) < (r.length : Int)) = y
        cases y <;> rfl
      · rfl
    · cases x <;> rfl
  · rw [hx rfl]
    cases x
    · generalize decide ((31 : Int) < (r.length : Int)) = y
      cases y <;> rfl
    · rfl
theorem rest_bytes (b : List Int) (hb : Bytes b) : Bytes (r8Decode b).2.1 := by
  rw [r8Decode_val b hb]
  unfold decA
  cases decide ((b.length : Int) < 7)
  · cases aCheck (addrOf b) != 0
    · exact hb.drop 7
    · exact fun x hx => absurd hx (by simp)
  · exact fun x hx => absurd hx (by simp)
def payP (k : Int) (c : List Int) : AdvPDU × List Int × Int :=
  cond ((r8Decode c).2.2 != 0) (AdvPDU.zero, [], (r8Decode c).2.2) (cond (hasTarget k) (cond ((r8Decode (r8Decode c).2.1).2.2 != 0) (AdvPDU.zero, [], (r8Decode (r8Decode c).2.1).2.2) (⟨k, (r8Decode c).1, (r8Decode (r8Decode c).2.1).1, [], ConnParams.zero⟩, (r8Decode (r8Decode c).2.1).2.1, 0)) (⟨k, (r8Decode c).1, Address.zero, [], ConnParams.zero⟩, (r8Decode c).2.1, 0))
theorem payP_eq (k : Int) (c : List Int) : r19Payload k c = payP k c := by
  unfold r19Payload payP
  generalize r8Decode c = A
  generalize r8Decode A.snd.fst = B
  rfl
theorem core0_eq (k h : Int) (c : List Int) (k0 : 0 ≤ k) (k6 : k ≤ 6) (hc : Bytes c) : finP (core0 k h c) = tailP (payP k c) h := by
  have b1 := rest_bytes c hc
  have b2 := rest_bytes _ b1
  unfold core0 payP
  rw [aDecode_eq c hc, aDecode_eq _ b1, form_target]
  by_cases z1 : (r8Decode c).2.2 = 0
  · rw [z1]
    cases ht : hasTarget k
    · exact core1_eq k h _ _ _ k0 k6 b1
    · by_cases z2 : (r8Decode (r8Decode c).2.1).2.2 = 0
      · rw [z2]; exact core1_eq k h _ _ _ k0 k6 b2
      · rw [ne_true z2]
        show finP (_, _) = tailP (_, _, _) h
        rw [finP_err _ z2]; unfold tailP; dsimp only; rw [ne_true z2]; rfl
  · rw [ne_true z1]
    show finP (_, _) = tailP (_, _, _) h
    rw [finP_err _ z1]; unfold tailP; dsimp only; rw [ne_true z1]; rfl
theorem byte1 : ∀ x : Fin 256, IntKind.wrap .i64 (bandK .u8 (x.val : Int) 15) = (x.val : Int) % 16 := by decide +kernel
theorem byte2 : ∀ x : Fin 256, (bandK .u8 (x.val : Int) 48 != 0) = (Int.tmod (IntKind.wrap .u8 (Int.tdiv (x.val : Int) 16)) 4 != 0) := by decide +kernel
theorem byte3 : ∀ x : Fin 256, IntKind.wrap .i64 (Int.tmod (x.val : Int) 16) = (x.val : Int) % 16 := by decide +kernel
theorem pDecode_eq (b : List Int) (hb : Bytes b) : pDecode b = r19Decode b := by
  have h0 := hb.getD 0
  have hx : b.getD 0 0 = (((⟨(b.getD 0 0).toNat, by omega⟩ : Fin 256).val : Nat) : Int) := by show _ = (((b.getD 0 0).toNat : Nat) : Int); omega
  have e1 : IntKind.wrap .i64 (bandK .u8 (b.getD 0 0) 15) = b.getD 0 0 % 16 := by rw [hx]; exact byte1 _
  have e2 : (bandK .u8 (b.getD 0 0) 48 != 0) = (Int.tmod (IntKind.wrap .u8 (Int.tdiv (b.getD 0 0) 16)) 4 != 0) := by rw [hx]; exact byte2 _
  have e3 : IntKind.wrap .i64 (Int.tmod (b.getD 0 0) 16) = b.getD 0 0 % 16 := by rw [hx]; exact byte3 _
  have e4 : Int.tmod (b.getD 0 0) 16 = b.getD 0 0 % 16 := Int.tmod_eq_emod_of_nonneg h0.1
  have et : List.take (Int.toNat (b.length : Int)) b = b := by rw [show ((b.length : Int)).toNat = b.length by omega, List.take_length]
  have ed : pDecode0 b = cond (decide ((b.length : Int) < 2)) (AdvPDU.zero, 3) (cond (!(aForm (IntKind.wrap .i64 (bandK .u8 (b.getD 0 0) 15))).known) (⟨IntKind.wrap .i64 (bandK .u8 (b.getD 0 0) 15), Address.zero, Address.zero, [], ConnParams.zero⟩, 12) (cond (bandK .u8 (b.getD 0 0) 48 != 0) (⟨IntKind.wrap .i64 (bandK .u8 (b.getD 0 0) 15), Address.zero, Address.zero, [], ConnParams.zero⟩, 2)
    (cond (decide (IntKind.wrap .i64 ((b.length : Int) - 2) < IntKind.wrap .i64 (b.getD 1 0))) (⟨IntKind.wrap .i64 (bandK .u8 (b.getD 0 0) 15), Address.zero, Address.zero, [], ConnParams.zero⟩, 3) (cond (decide (IntKind.wrap .i64 (b.getD 1 0) < IntKind.wrap .i64 ((b.length : Int) - 2))) (⟨IntKind.wrap .i64 (bandK .u8 (b.getD 0 0) 15), Address.zero, Address.zero, [], ConnParams.zero⟩, 2)
    (core0 (IntKind.wrap .i64 (bandK .u8 (b.getD 0 0) 15)) (b.getD 0 0) (List.drop 2 (List.take (Int.toNat (b.length : Int)) b))))))) := rfl
  have er : r19Decode b = cond (decide ((b.length : Int) < 2)) (AdvPDU.zero, 3) (cond (decide ((6 : Int) < Int.tmod (b.getD 0 0) 16)) (AdvPDU.zero, 12) (cond (Int.tmod (IntKind.wrap .u8 (Int.tdiv (b.getD 0 0) 16)) 4 != 0) (AdvPDU.zero, 2)
    (cond (decide (IntKind.wrap .i64 ((b.length : Int) - 2) < IntKind.wrap .i64 (b.getD 1 0))) (AdvPDU.zero, 3) (cond (decide (IntKind.wrap .i64 (b.getD 1 0) < IntKind.wrap .i64 ((b.length : Int) - 2))) (AdvPDU.zero, 2)
    (tailP (r19Payload (IntKind.wrap .i64 (Int.tmod (b.getD 0 0) 16)) (List.drop 2 (List.take (Int.toNat (b.length : Int)) b))) (b.getD 0 0)))))) := rfl
  rw [pDecode_fin, ed, er, e1, e2, e3, e4, et, payP_eq, form_known]
  have h3 : decide (b.getD 0 0 % 16 < 0) = false := by simp only [decide_eq_false_iff_not]; omega
  rw [h3, cond_false, Bool.not_not]
  generalize decide ((b.length : Int) < 2) = c1
  cases c1
  · by_cases h6 : 6 < b.getD 0 0 % 16
    · rw [decide_eq_true h6]; rfl
    · rw [decide_eq_false h6]
      generalize (Int.tmod (IntKind.wrap .u8 (Int.tdiv (b.getD 0 0) 16)) 4 != 0) = c3
      generalize decide (IntKind.wrap .i64 ((b.length : Int) - 2) < IntKind.wrap .i64 (b.getD 1 0)) = c4
      generalize decide (IntKind.wrap .i64 (b.getD 1 0) < IntKind.wrap .i64 ((b.length : Int) - 2)) = c5
      cases c3
      · cases c4
        · cases c5
          · exact core0_eq _ _ _ (by omega) (by omega) (hb.drop 2)
          · rfl
        · rfl
      · rfl
  · rfl
theorem r19Same_refl (p : AdvPDU) : r19Same p p = true := by unfold r19Same; simp [r2Same_refl]
theorem advpduDecodes_pre (b : List Int) (b0 : (∀ y ∈ b, IntKind.has .u8 y) ∧ b.length * 1 ≤ 140737488351232) : b.length ≤ 140737488351232 := by omega
theorem advpduDecodes_true (b : List Int) (b0 : (∀ y ∈ b, IntKind.has .u8 y) ∧ b.length * 1 ≤ 140737488351232) : advpduDecodes b = true := by
  unfold advpduDecodes
  rw [lives19_true, List.nil_append, pDecode_eq b (has_bytes b0.1), r19Same_refl]
  simp
end Go.Aw.W
