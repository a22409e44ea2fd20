/- The law of plays of chapter 21. -/
import Derived.Test.YtppceadhdckpmaaDoorP4
import Derived.Test.YtppceadhdckpmaaDoorW29
set_option linter.unusedVariables false
set_option linter.unusedSimpArgs false
set_option maxRecDepth 8000
namespace Go.Aw.W
open Go Go.Aw Go.Proofs
theorem start_form (p : AdvParams) (t : Int) : advStart p t = cond (advCheck p != 0) (Advertiser.zero, advCheck p) (⟨p, true, 0, advMoment t⟩, 0) := by
  unfold advStart; simp only [advOwn_eq]
theorem fire_eq (a : Advertiser) (t : Int) (hs : U64 a.Params.Seed) : advFire a t = r21Fire a t := by
  unfold advFire r21Fire
  simp only [advOwn_eq, delay_eq _ _ hs, moment_eq, r21PDU_eq]
  kernel_rfl
theorem stop_eq (a : Advertiser) : advStop a = advStop0 a := by
  unfold advStop advStop0
  simp only [advOwn_eq]
structure OkP (p : AdvParams) : Prop where
  own : HasA p.Own
  tgt : HasA p.Target
  acc : p.Accept.length ≤ 4611686018427387904
  ids : p.Identities.length ≤ 4611686018427387904
  irk : ∀ x ∈ p.Identities, U64 x.IRK
  seed : U64 p.Seed
theorem okP {p : AdvParams} (h : p.has) : OkP p := by
  obtain ⟨h0, h1, h2, h3, h4, h5, h6, h7, h8, h9⟩ := h
  exact ⟨hasA h2, hasA h3, by have := h7.2; omega, by have := h8.2; omega, fun x hx => has_u64 (h8.1 x hx).2, has_u64 h9⟩
theorem connects_eq (p : AdvParams) (s : Address) (h : OkP p) (hs : HasA s) : connects p s = r21Accepts p s := by
  unfold connects r21Accepts
  rw [accAllows_eq _ _ _ _ _ h.acc h.ids hs h.irk, find_eq _ _ hs h.irk h.ids]
  cases p.Kind == (0 : Int)
  · simp only [cond_false, bne]
    cases p.Kind == (1 : Int) <;> rfl
  · rfl
theorem ans_tree {R : Type} (on lo hi k3 k5 ck tg sc al3 cn : Bool) (a b c : R) (h : k3 = true → k5 = false) :
    cond (bif bif bif bif !on then true else lo then true else hi then true else !ck then true else !tg) a (cond (bif bif k3 then sc else false then al3 else false) b (cond (bif k5 then cn else false) c a)) =
    cond (bif bif bif !on then true else lo then true else hi then true else !(bif bif bif k3 then true else k5 then ck else false then tg else false)) a (cond k5 (cond (!cn) a c) (cond (bif !sc then true else !al3) a b)) := by
  have key : k3 = false ∨ (k3 = true ∧ k5 = false) := by
    cases k3
    · exact .inl rfl
    · exact .inr ⟨rfl, h rfl⟩
  rcases key with rfl | ⟨rfl, rfl⟩
  · cases on <;> cases lo <;> cases hi <;> cases ck <;> cases tg <;> cases k5 <;> cases cn <;> rfl
  · cases on <;> cases lo <;> cases hi <;> cases ck <;> cases tg <;> cases sc <;> cases al3 <;> rfl
theorem answer_eq (a : Advertiser) (q : AdvPDU) (c t : Int) (h : OkP a.Params) (hq : q.has) : advAnswer a q c t = r21Answer a q c t := by
  have hs := hasA hq.2.1
  unfold advAnswer r21Answer r21Meant
  simp only [advOwn_eq, moment_eq, r21Scan_eq, pCheck_eq q hq, connects_eq _ _ h hs, accAllows_eq _ _ _ _ _ h.acc h.ids hs h.irk, scan_eq]
  have h35 : (q.Kind == (3 : Int)) = true → (q.Kind == (5 : Int)) = false := by
    intro h; rw [eq_of_beq h]; rfl
  have ht := ans_tree a.On (decide (c < (37 : Int))) (decide ((39 : Int) < c)) (q.Kind == (3 : Int)) (q.Kind == (5 : Int)) (r19Check q == (0 : Int)) (q.Target.Kind == a.Params.Own.Kind && q.Target.Bits == a.Params.Own.Bits) (r19Scan a.Params.Kind) (r20Allows a.Params.Policy q.Kind a.Params.Accept a.Params.Identities q.Sender) (r21Accepts a.Params q.Sender)
    ((a, [], false) : Advertiser × List Send × Bool) (a, [⟨c, IntKind.wrap IntKind.i64 (r21Place t + (150 : Int)), advScan a.Params⟩], false) (⟨a.Params, false, a.Event, a.Next⟩, [], true) h35
  refine Eq.trans ht ?_
  cases k5 : q.Kind == (5 : Int)
  · cases k3 : q.Kind == (3 : Int)
    · cases (bif bif !a.On then true else decide (c < (37 : Int)) then true else decide ((39 : Int) < c)) <;> rfl
    · rw [eq_of_beq k3]
  · cases k3 : q.Kind == (3 : Int)
    · rfl
    · rw [h35 k3] at k5; cases k5
theorem r19Same_refl (p : AdvPDU) : r19Same p p = true := by
  unfold r19Same
  rw [same2_refl]
  simp
theorem sends_go (a : List Send) (hl : a.length ≤ 4611686018427387904) : ∀ (n : Nat) (i : Int), 0 ≤ i → i ≤ a.length → (a.length - i).toNat < n → r21SameSends.go a a n i = true
  | 0, i, h0, h1, h2 => by omega
  | n + 1, i, h0, h1, h2 => by
    unfold r21SameSends.go
    by_cases hi : i < a.length
    · rw [decide_eq_true hi, cond_true, r19Same_refl, wi64 (i + (1 : Int)) (by omega) (by omega), sends_go a hl n (i + 1) (by omega) (by omega) (by omega)]
      simp
    · rw [decide_eq_false hi, cond_false]
theorem sends_refl (a : List Send) (hl : a.length ≤ 4611686018427387904) : r21SameSends a a = true := by
  unfold r21SameSends
  rw [show ((a.length : Int) != (a.length : Int)) = false by simp, cond_false]
  exact sends_go a hl _ _ (by omega) (by omega) (by omega)
theorem fire_len (a : Advertiser) (t : Int) : (r21Fire a t).2.length ≤ 4611686018427387904 := by
  unfold r21Fire
  simp only [Bool.cond_eq_ite]
  split <;> (try split) <;> simp
theorem answer_len (a : Advertiser) (q : AdvPDU) (c t : Int) : (r21Answer a q c t).2.1.length ≤ 4611686018427387904 := by
  unfold r21Answer
  simp only [Bool.cond_eq_ite]
  repeat' split
  all_goals simp
theorem plays_go (p : AdvParams) (p1 : Int) (ops : List Law21Op) (hp : OkP p) (ho : ∀ o ∈ ops, o.PDU.has) (hl : ops.length ≤ 1000) (n : Nat) : ∀ (i now : Int) (a : Advertiser), 0 ≤ i → i ≤ ops.length → (ops.length - i).toNat < n → a.Params = p → advertiserPlays.go p p1 ops n i now a a = true := by
  induction n with
  | zero => intro i now a h0 h1 h2; omega
  | succ n ih =>
    intro i now a h0 h1 h2 ha
    unfold advertiserPlays.go
    by_cases hi : i < ops.length
    · rw [decide_eq_true hi, cond_true, wi64 (i + (1 : Int)) (by omega) (by omega)]
      have hq : (ops.getD i.toNat Law21Op.zero).PDU.has := by
        refine ho _ ?_
        simp [List.getD, show i.toNat < ops.length by omega]
      have ih' := fun now a h => ih (i + 1) now a (by omega) (by omega) (by omega) h
      clear ih
      generalize List.getD ops (Int.toNat i) Law21Op.zero = o at hq ⊢
      have hok : OkP a.Params := by rw [ha]; exact hp
      have sr : ∀ b : Advertiser, b.Params = p → r21Same b b = true := fun b hb => r21Same_refl b (by rw [hb]; exact hp.acc) (by rw [hb]; exact hp.ids)
      have key : ∀ (b : Advertiser) (l : List Send) (x : Bool) (t : Int), b.Params = p → l.length ≤ 4611686018427387904 → cond (bif bif !r21Same b b then true else !r21SameSends l l then true else !(x == x)) false (advertiserPlays.go p p1 ops n (i + 1) t b b) = true := by
        intro b l x t hb hl
        rw [sr b hb, sends_refl l hl, ih' t b hb]
        simp
      have key2 : ∀ (b : Advertiser) (t : Int), b.Params = p → cond (bif bif !r21Same b b then true else false then true else false) false (advertiserPlays.go p p1 ops n (i + 1) t b b) = true := by
        intro b t hb
        rw [sr b hb, ih' t b hb]
        simp
      have key3 : ∀ (b : Advertiser) (l : List Send) (t : Int), b.Params = p → l.length ≤ 4611686018427387904 → cond (bif bif !r21Same b b then true else !r21SameSends l l then true else false) false (advertiserPlays.go p p1 ops n (i + 1) t b b) = true := by
        intro b l t hb hl
        rw [sr b hb, sends_refl l hl, ih' t b hb]
        simp
      simp only [fire_eq _ _ hok.seed, answer_eq _ _ _ _ hok hq, stop_eq]
      cases o.Do == (0 : Int)
      · cases o.Do == (1 : Int)
        · cases o.Do == (2 : Int)
          · cases o.Do == (3 : Int)
            · exact key2 a _ ha
            · exact key2 _ _ (by rw [r21Stop_par]; exact ha)
          · exact key _ _ _ _ (by rw [r21Answer_par]; exact ha) (answer_len _ _ _ _)
        · exact key3 _ _ _ (by rw [r21Fire_par]; exact ha) (fire_len _ _)
      · exact key3 _ _ _ (by rw [r21Fire_par]; exact ha) (fire_len _ _)
    · rw [decide_eq_false hi, cond_false]
theorem advertiserPlays_pre (p : AdvParams) (p1 : Int) (ops : List Law21Op) (b0 : p.has) (b1 : IntKind.has .i64 p1) (b2 : (∀ y ∈ ops, y.has) ∧ ops.length * 168 ≤ 140737488351232) : p.Data.length ≤ 140737488355328 ∧ p.Scan.length ≤ 140737488355328 := by
  have h1 := b0.2.2.2.2.1.2
  have h2 := b0.2.2.2.2.2.1.2
  omega
theorem advertiserPlays_true (p : AdvParams) (p1 : Int) (ops : List Law21Op) (b0 : p.has) (b1 : IntKind.has .i64 p1) (b2 : (∀ y ∈ ops, y.has) ∧ ops.length * 168 ≤ 140737488351232) : advertiserPlays p p1 ops = true := by
  unfold advertiserPlays
  cases hs : small21 p
  · rfl
  by_cases h2 : (30 : Int) < ops.length
  · rw [decide_eq_true h2]; rfl
  rw [decide_eq_false h2, own21_eq, ← start_eq p p1 b0, start_form]
  simp only [Bool.not_true, cond_false]
  by_cases hz : advCheck p = 0
  · rw [hz]
    simp only [bne_self_eq_false, cond_false]
    exact plays_go p p1 ops (okP b0) (fun o ho => (b2.1 o ho).2.2.1) (by omega) _ _ _ _ (by omega) (by omega) (by omega) rfl
  · rw [show (advCheck p != (0 : Int)) = true by simp [hz]]
    simp only [cond_true, show (advCheck p != (0 : Int)) = true by simp [hz]]
    simp
end Go.Aw.W
