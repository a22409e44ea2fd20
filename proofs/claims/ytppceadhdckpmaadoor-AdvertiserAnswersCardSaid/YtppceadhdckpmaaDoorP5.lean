/- The law of answers of chapter 21. -/
import Derived.Test.YtppceadhdckpmaaDoorP4
set_option linter.unusedVariables false
set_option maxRecDepth 8000
namespace Go.Aw.W
open Go Go.Aw Go.Proofs
theorem start_form (p : AdvParams) (t : Int) : advStart p t = cond (advCheck p != 0) (Advertiser.zero, advCheck p) (⟨p, true, 0, advMoment t⟩, 0) := by
  unfold advStart; simp only [advOwn_eq]
theorem conn_kind (p : AdvParams) (s : Address) (h : connects p s = true) : r19Conn p.Kind = true := by
  unfold connects at h
  unfold r19Conn
  cases k0 : p.Kind == (0 : Int)
  · cases k1 : p.Kind == (1 : Int)
    · rw [k0, k1] at h; cases h
    · rfl
  · rfl
theorem allows0 (r : Int) (l : List Address) (ids : List Identity) (a : Address) (h : r = 3 ∨ r = 5) : accAllows 0 r l ids a = true := by
  rcases h with rfl | rfl <;> rfl
theorem meant_bool (lo hi ck tg k : Bool) : (bif bif (bif bif k then ck else false then tg else false) then !lo else false then !hi else false) = (bif k then !(bif bif bif lo then true else hi then true else !ck then true else !tg) else false) := by
  cases lo <;> cases hi <;> cases ck <;> cases tg <;> cases k <;> rfl
theorem meant_eq (p : AdvParams) (m : Int) (q : AdvPDU) (ch : Int) (hq : q.has) : (bif bif r21Meant ⟨p, true, 0, m⟩ q then decide ((37 : Int) ≤ ch) else false then decide (ch ≤ (39 : Int)) else false) =
    (bif (bif q.Kind == (3 : Int) then true else q.Kind == (5 : Int)) then !(bif bif bif decide (ch < (37 : Int)) then true else decide ((39 : Int) < ch) then true else pCheck q != (0 : Int) then true else !(q.Target.Kind == p.Own.Kind && q.Target.Bits == p.Own.Bits)) else false) := by
  have h1 : decide ((37 : Int) ≤ ch) = !decide (ch < (37 : Int)) := by by_cases h : ch < 37 <;> simp [h] <;> omega
  have h2 : decide (ch ≤ (39 : Int)) = !decide ((39 : Int) < ch) := by by_cases h : 39 < ch <;> simp [h] <;> omega
  rw [h1, h2]
  unfold r21Meant
  rw [← pCheck_eq q hq]
  exact meant_bool _ _ _ _ _
theorem advertiserAnswers_pre (p : AdvParams) (x : Law21Heard) (b0 : p.has) (b1 : x.has) : p.Data.length ≤ 140737488355328 ∧ p.Scan.length ≤ 140737488355328 := by
  have h1 := b0.2.2.2.2.1.2
  have h2 := b0.2.2.2.2.2.1.2
  omega
theorem advertiserAnswers_true (p : AdvParams) (x : Law21Heard) (b0 : p.has) (b1 : x.has) : advertiserAnswers p x = true := by
  unfold advertiserAnswers
  cases hs : small21 p
  · rfl
  by_cases h0 : x.Local < 0
  · rw [decide_eq_true h0]; rfl
  by_cases h1 : 1099511627776 < x.Local
  · rw [decide_eq_true h1, decide_eq_false h0]; rfl
  rw [decide_eq_false h0, decide_eq_false h1, own21_eq, start_form]
  cases hz : advCheck p != 0
  case true => simp only [cond_true, hz, Bool.not_true, cond_false]
  simp only [cond_false, Bool.not_true, meant_eq p _ x.PDU x.Channel b1.1]
  have hA : advAnswer ⟨p, true, 0, advMoment 0⟩ x.PDU x.Channel x.Local = cond (bif bif bif decide (x.Channel < (37 : Int)) then true else decide ((39 : Int) < x.Channel) then true else pCheck x.PDU != (0 : Int) then true else !(x.PDU.Target.Kind == p.Own.Kind && x.PDU.Target.Bits == p.Own.Bits)) ((⟨p, true, 0, advMoment 0⟩ : Advertiser), ([] : List Send), false)
      (cond (bif bif x.PDU.Kind == (3 : Int) then aScan p.Kind else false then accAllows p.Policy x.PDU.Kind p.Accept p.Identities x.PDU.Sender else false) ((⟨p, true, 0, advMoment 0⟩ : Advertiser), [(⟨x.Channel, IntKind.wrap .i64 (x.Local + 150), ⟨4, p.Own, Address.zero, p.Scan, ConnParams.zero⟩⟩ : Send)], false)
        (cond (bif x.PDU.Kind == (5 : Int) then connects p x.PDU.Sender else false) ((⟨p, false, 0, advMoment 0⟩ : Advertiser), ([] : List Send), true) ((⟨p, true, 0, advMoment 0⟩ : Advertiser), ([] : List Send), false))) := by
    unfold advAnswer
    simp only [advOwn_eq, advScan_eq, Bool.not_true, cond_false, moment_id x.Local (by omega) (by omega)]
  simp only [hA, ← scan_eq]
  have hc := conn_kind p x.PDU.Sender
  have hk0 : (p.Kind == (0 : Int)) = true → aScan p.Kind = true := by intro h; unfold aScan; rw [h]; rfl
  have hk1 : (p.Kind == (0 : Int)) = true → (p.Policy == (0 : Int)) = true → connects p x.PDU.Sender = true := by
    intro h h'; unfold connects; rw [h, cond_true, eq_of_beq h']; exact allows0 _ _ _ _ (.inr rfl)
  have hk2 : (x.PDU.Kind == (3 : Int)) = true → (p.Policy == (0 : Int)) = true → accAllows p.Policy x.PDU.Kind p.Accept p.Identities x.PDU.Sender = true := by
    intro h h'; rw [eq_of_beq h']; exact allows0 _ _ _ _ (.inl (eq_of_beq h))
  clear hA hz
  generalize (bif bif bif decide (x.Channel < (37 : Int)) then true else decide ((39 : Int) < x.Channel) then true else pCheck x.PDU != (0 : Int) then true else !(x.PDU.Target.Kind == p.Own.Kind && x.PDU.Target.Bits == p.Own.Bits)) = c1
  generalize accAllows p.Policy x.PDU.Kind p.Accept p.Identities x.PDU.Sender = al at *
  generalize connects p x.PDU.Sender = cn at *
  generalize aScan p.Kind = sc at *
  generalize r19Conn p.Kind = ck at *
  simp only [bne]
  generalize (p.Kind == (0 : Int)) = k0 at *
  generalize (p.Policy == (0 : Int)) = pp at *
  have h35 : (x.PDU.Kind == (3 : Int)) = true → (x.PDU.Kind == (5 : Int)) = false := by
    intro h; rw [eq_of_beq h]; rfl
  generalize (x.PDU.Kind == (3 : Int)) = k3 at *
  generalize (x.PDU.Kind == (5 : Int)) = k5 at *
  cases c1
  · cases k3
    · cases k5
      · simp
      · cases cn
        · cases k0
          · simp
          · cases pp
            · simp
            · exact absurd (hk1 rfl rfl) (by decide)
        · have := hc rfl
          subst this
          simp
    · have := h35 rfl
      subst this
      cases sc
      · cases k0
        · simp
        · exact absurd (hk0 rfl) (by decide)
      · cases al
        · cases k0
          · simp
          · cases pp
            · simp
            · exact absurd (hk2 rfl rfl) (by decide)
        · simp [same2_refl]
  · simp
end Go.Aw.W
