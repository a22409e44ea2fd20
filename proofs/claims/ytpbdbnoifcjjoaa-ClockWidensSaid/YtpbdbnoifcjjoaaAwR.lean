/-
  Regions that draw their order (own work).
-/
import Derived.Test.YtpbdbnoifcjjoaaAwC
set_option linter.unusedSimpArgs false
set_option linter.unusedVariables false
namespace Go.Aw
open Go.RowKit

section
variable {C : Cx} {env : Env} {w : World} {B : Nat} {H : List (AObj C.S.El)}

theorem G2.map2 {S : Sig} {env : Env} {w : World} {f g : AV S.El → AV S.El} (hf : ∀ x v, Γ S env w (f x) v → Γ S env w (g x) v) : ∀ (cs : List (AV S.El)) (vs : List Value), G2 S env w (cs.map f) vs → G2 S env w (cs.map g) vs
  | [], vs, h => by simpa using h
  | c :: cs, vs, h => by
    obtain ⟨u, us, rfl, h1, h2⟩ := h.uncons
    exact (G2.map2 hf cs us h2).cons (hf c u h1)

theorem freezeAll_other : ∀ (l : List Nat) (H : List (AObj C.S.El)) (i : Nat), i ∉ l → obj (freezeAll H l) i = obj H i
  | [], H, i, _ => rfl
  | k :: l, H, i, h => by
    show obj (freezeAll (freeze1 H k) l) i = _
    rw [freezeAll_other l _ i (fun hm => h (by simp [hm])), freeze1_obj, if_neg (fun e => h (by simp [e]))]

/-- What a contract made is written no more. -/
theorem read_news (hC : CxOk C) (hI : Inv C.S B env w H) {env1 : Env} {w' : World} {news : List (AObj C.S.El)} {r : AV C.S.El} {v : Value} (h1 : Γ C.S env1 w' (sh2 H.length r) v) (h2 : Inv C.S B env1 w' (H ++ news)) (h3 : Ext B H.length env w env1 w') (hbel : Below w.heap.size w w')
    (hcl : lt2 0 (readN2 news r) = true) : PureR C B env w H (readN2 news r) v w' := by
  have hS := hC.sig
  let ids := (List.range news.length).map (H.length + ·)
  obtain ⟨env2, v2, I2, E2, l2, f2⟩ := freezeAll_sound hS ids env1 (H ++ news) h2
  have hN1 := h2.fresh
  have hg : ∀ x u, Γ C.S env2 w' (sh H.length x) u → Γ C.S env2 w' (readN news x) u := by
    intro x u hx
    cases x <;> simp only [sh, readN, deref] at hx ⊢ <;> try exact hx
    rename_i k
    have hd : deref (freezeAll (H ++ news) ids) (.gs (H.length + k)) = deref news (.gs k) := by
      rw [freezeAll_deref]
      simp only [deref]
      have : obj (H ++ news) (H.length + k) = obj news k := by simp only [obj_nth]; rw [List.getElem?_append_right (by omega)]; congr 2; omega
      rw [this]
    have := deref_sound I2 hx (by
      intro i hi t xs
      simp only [owns, List.mem_singleton] at hi
      subst hi
      by_cases hk : k < news.length
      · exact f2 _ (List.mem_map.2 ⟨k, List.mem_range.2 hk, rfl⟩) t xs
      · rw [freezeAll_other _ _ _ (by intro hm; obtain ⟨q, hq, he⟩ := List.mem_map.1 hm; rw [List.mem_range] at hq; omega)]
        have : obj (H ++ news) (H.length + k) = .gone := by rw [obj_nth, List.getElem?_eq_none (by simp; omega)]; rfl
        rw [this]; simp)
    rw [hd] at this
    exact this
  have hg1 : ∀ x u, Γ C.S env2 w' (sh1 H.length x) u → Γ C.S env2 w' (readN1 news x) u := by
    intro x u hx
    cases x
    case agg cs =>
      simp only [sh1] at hx
      obtain ⟨us, rfl, hus⟩ := hx.unagg
      exact G2.agg (G2.map2 hg cs _ hus)
    all_goals (simp only [sh1, readN1] at hx ⊢; exact hg _ u hx)
  have hΓ2 : Γ C.S env2 w' (readN2 news r) v := by
    have hx := h1.ext E2 hN1
    cases r
    case tup cs =>
      simp only [sh2] at hx
      obtain ⟨us, rfl, hus⟩ := hx.untup
      have := G2.map2 hg1 cs _ hus
      exact .tup _ _ (by simpa using this.1) this.2
    all_goals (simp only [sh2, readN2] at hx ⊢; exact hg1 _ v hx)
  have hE4 : Ext B H.length env w ⟨env.val, env2.prot⟩ w' := ⟨h3.below, fun _ _ _ h => h, fun b o hp => E2.prot b o (h3.prot b o hp), h3.keep, fun b o hp => (E2.newp b o hp).elim (h3.newp b o) .inr⟩
  refine ⟨⟨env.val, env2.prot⟩, Γ.lt2 (env := env2) (env' := ⟨env.val, env2.prot⟩) hS (n := 0) (fun i v hi => by omega) (fun _ _ h => h) hΓ2 hcl, hI.ext hE4 (fun _ _ h => h) (fun i u b e1 e2 e3 => hbel.block b (live_block hI e1 e2 e3)) (fun i u b o e1 e2 e3 hp => ?_) (fun b o hp => I2.inheap b o hp), hE4⟩
  exfalso
  have hi : i < H.length := hI.fresh i u e2
  have ho : obj (freezeAll (H ++ news) ids) i = obj H i := by
    rw [freezeAll_other _ _ _ (by intro hm; obtain ⟨q, hq, he⟩ := List.mem_map.1 hm; omega)]
    simp only [obj_nth]; rw [List.getElem?_append_left hi]
  exact I2.free i u b (by rw [ho]; exact e1) (by rw [v2]; exact h3.val i u hi e2) e3 o hp

/-- A new slice that is never written again. -/
theorem evD_sound (hC : CxOk C) (hI : Inv C.S B env w H) {o : Oper} {a : Act} {rho : Operand → AV C.S.El} (hρ : ∀ x ∈ o.op.operands.toList, Γ C.S env w (rho x) (a.eval x)) {ps : List Prop} {r : AV C.S.El}
    (h : evD C o rho H = some (ps, r)) (hp : ∀ p ∈ ps, p) : Does C.P o a w (PureR C B env w H r) := by
  have hS := hC.sig
  unfold evD at h
  split at h
  · rename_i rr hev
    cases h
    exact evP_sound hC hI hρ hev hp
  · cases hop : o.op <;> rw [hop] at h hρ <;> simp only [reduceCtorEq] at h
    case buildSlice t len parts =>
      simp only [Option.map_eq_some_iff] at h
      obtain ⟨sg, hsg, h⟩ := h
      cases h
      obtain ⟨us, hrun, hrow, hlen, hbd⟩ := buildSliceA_sound (e := a.eval) (env := env) hS hsg (fun x hx => hρ x (by simpa [Op.operands] using hx))
      obtain ⟨env', hI', hE', hc⟩ := pure_alloc hI (oneMore_alloc w (.cells us sg.1))
      have hrun' : (Instr.buildSlice t len (parts.map fun x => (x.1, a.eval x.2))).run C.P w = .ok (.slice (some ⟨w.heap.size, 0, none⟩) sg.2.length sg.2.length) (w.alloc (.cells us sg.1)) := by simpa using hrun
      refine does_value (v := .slice (some ⟨w.heap.size, 0, none⟩) sg.2.length sg.2.length) (by simp [execOp, hop, hrun']) ⟨env', ?_, hI', hE'⟩
      have hrow' := hrow.ext hE' hI.fresh
      refine .sl sg.1 sg.2 true w.heap.size 0 sg.2.length (fun k => us.toList.getD k undef) (fun _ => rfl) (Nat.le_refl _) (fun k hk => ?_) (fun i j hi => hrow'.2 i j hi)
      rw [Nat.zero_add]
      have hk' : k < us.size := by have := hrow.1; simp at this; omega
      exact hc k _ (by simp [List.getD, hk'])
    case call c =>
      split at h
      · rename_i x0 hc
        split at h
        · rename_i f args ht
          split at h
          · rename_i ct hT
            split at h
            · rename_i ps' r' news hct
              obtain ⟨hb, h⟩ := cond_some h
              cases h
              simp only [Bool.and_eq_true] at hb
              obtain ⟨⟨hb1, hb2⟩, hb3⟩ := hb
              have hnil : args.flatMap owns1 = [] := by simpa using hb2
              refine (call_ct hC hI hop (fun y hy => hρ y (by simpa [Op.operands] using hy)) ht hT hct hp hb1).mono fun v w' ⟨env1, h1, h2, h3, hbel⟩ => ?_
              rw [hnil] at h2
              simp only [freezeAll, List.foldl_nil] at h2
              exact read_news hC hI h1 h2 h3 hbel hb3
            · cases h
          · cases h
        · cases h
      · cases h

theorem mask_spec {acc : List Nat} {j : Nat} : ∀ (es : List Edge), (maskOf acc es).testBit j = true → ∃ e ∈ es, Region.binds .any e = true ∧ (j = e.on ∨ ((nth acc e.on).getD 0).testBit j = true)
  | [], h => by simp [maskOf] at h
  | e :: es, h => by
    simp only [maskOf] at h
    cases hb : Region.binds .any e
    · rw [hb, cond_false] at h
      obtain ⟨e', h1, h2⟩ := mask_spec es h
      exact ⟨e', by simp [h1], h2⟩
    · rw [hb, cond_true, Nat.testBit_or, Nat.testBit_or, Bool.or_eq_true, Bool.or_eq_true] at h
      rcases h with (h | h) | h
      · rw [Nat.testBit_two_pow] at h
        exact ⟨e, by simp, hb, .inl (by simpa using (of_decide_eq_true h).symm)⟩
      · exact ⟨e, by simp, hb, .inr h⟩
      · obtain ⟨e', h1, h2⟩ := mask_spec es h
        exact ⟨e', by simp [h1], h2⟩

theorem bits_len : ∀ (os : List Oper) (acc : List Nat), (bitsFrom acc os).length = acc.length + os.length
  | [], acc => by simp [bitsFrom]
  | o :: os, acc => by rw [bitsFrom, bits_len os]; simp; omega

theorem bits_old : ∀ (os : List Oper) (acc : List Nat) (i : Nat), i < acc.length → (bitsFrom acc os)[i]? = acc[i]?
  | [], acc, i, h => rfl
  | o :: os, acc, i, h => by
    rw [bitsFrom, bits_old os _ i (by simp; omega), List.getElem?_append_left h]

theorem bits_new : ∀ (os : List Oper) (acc : List Nat) (k : Nat) (o : Oper), os[k]? = some o → ∃ acc', acc'.length = acc.length + k ∧ (∀ i, i < acc'.length → (bitsFrom acc os)[i]? = acc'[i]?) ∧ (bitsFrom acc os)[acc.length + k]? = some (maskOf acc' o.after.toList)
  | [], acc, k, o, h => by simp at h
  | o' :: os, acc, 0, o, h => by
    simp only [List.getElem?_cons_zero, Option.some.injEq] at h
    subst h
    refine ⟨acc, rfl, fun i hi => bits_old (o' :: os) acc i hi, ?_⟩
    rw [bitsFrom, bits_old os _ _ (by simp)]
    simp
  | o' :: os, acc, k + 1, o, h => by
    obtain ⟨acc', h1, h2, h3⟩ := bits_new os (acc ++ [maskOf acc o'.after.toList]) k o (by simpa using h)
    refine ⟨acc', by simp at h1; omega, fun i hi => by rw [bitsFrom]; exact h2 i hi, ?_⟩
    rw [bitsFrom]
    simp only [List.length_append, List.length_cons, List.length_nil] at h3
    rw [show acc.length + (k + 1) = acc.length + (0 + 1) + k by omega]
    exact h3

/-- Whatever is ahead has come up, if what each waits for has. -/
theorem ahead_closed {all : List Oper} {L : Nat → Bool} (hed : ∀ i o, all[i]? = some o → ∀ e ∈ o.after.toList, Region.binds .any e = true → e.on < i)
    (hcl : ∀ i o, all[i]? = some o → L i = true → ∀ e ∈ o.after.toList, Region.binds .any e = true → L e.on = true) : ∀ (i : Nat) (o : Oper), all[i]? = some o → (∀ e ∈ o.after.toList, Region.binds .any e = true → L e.on = true) → ∀ j, ahead (bitsBefore all) j i = true → L j = true := by
  intro i
  induction i using Nat.strongRecOn with
  | _ i ih =>
    intro o ho hL j hj
    obtain ⟨acc', h1, h2, h3⟩ := bits_new all [] i o ho
    simp only [List.length_nil, Nat.zero_add] at h1 h3
    unfold ahead bitsBefore at hj
    rw [nth_eq, h3] at hj
    simp only [Option.getD_some] at hj
    obtain ⟨e, he, hb, hor⟩ := mask_spec _ hj
    have hon := hed i o ho e he hb
    have hLe := hL e he hb
    rcases hor with rfl | hor
    · exact hLe
    · have hlt : e.on < all.length := by have := (List.getElem?_eq_some_iff.1 ho).1; omega
      refine ih e.on hon all[e.on] (List.getElem?_eq_getElem hlt) (hcl e.on _ (List.getElem?_eq_getElem hlt) hLe) j ?_
      unfold ahead bitsBefore
      rw [nth_eq] at hor ⊢
      rw [h2 e.on (by omega)]
      exact hor


/-- The slots once the operations that p names have come up, in the order of the text. -/
def slotsOf (slots : List (Nat × AV C.S.El)) (p : Nat → Bool) : List (Option Nat × AV C.S.El) → Nat → List (Nat × AV C.S.El)
  | [], _ => slots
  | (d, x) :: l, i => slotsOf (bif p i then (match d with | some d => (d, x) :: slots | none => slots) else slots) p l (i + 1)

/-- What a slot holds hangs on its own writers. -/
theorem slotsOf_congr {t : Nat} : ∀ (l : List (Option Nat × AV C.S.El)) (i : Nat) (s s' : List (Nat × AV C.S.El)) (p q : Nat → Bool), lk s t = lk s' t → (∀ k x, l[k]? = some (some t, x) → p (i + k) = q (i + k)) → lk (slotsOf s p l i) t = lk (slotsOf s' q l i) t
  | [], i, s, s', p, q, h, _ => h
  | (d, x) :: l, i, s, s', p, q, h, hw => by
    simp only [slotsOf]
    refine slotsOf_congr l (i + 1) _ _ p q ?_ (fun k y hk => by have := hw (k + 1) y (by simpa using hk); rw [show i + 1 + k = i + (k + 1) by omega]; exact this)
    cases d with
    | none => cases p i <;> cases q i <;> simpa using h
    | some d =>
      by_cases hd : d = t
      · subst hd
        have := hw 0 x rfl
        simp only [Nat.add_zero] at this
        rw [this]
        cases q i
        · simpa using h
        · simp [lk]
      · have e : ∀ (b : Bool) (s : List (Nat × AV C.S.El)), lk (bif b then (d, x) :: s else s) t = lk s t := by
          intro b s
          cases b
          · rfl
          · rw [cond_true, lk]
            have : Nat.beq d t = false := by
              cases hb : Nat.beq d t
              · rfl
              · exact absurd (Nat.eq_of_beq_eq_true hb) hd
            rw [this, cond_false]
        rw [e, e]; exact h

/-- .. and the last of them decides. -/
theorem slotsOf_last {t : Nat} {x : AV C.S.El} : ∀ (l : List (Option Nat × AV C.S.El)) (i : Nat) (s : List (Nat × AV C.S.El)) (p : Nat → Bool) (k : Nat), l[k]? = some (some t, x) → p (i + k) = true → (∀ k' y, k < k' → l[k']? = some (some t, y) → p (i + k') = false) → lk (slotsOf s p l i) t = x
  | [], i, s, p, k, h, _, _ => by simp at h
  | (d, y) :: l, i, s, p, 0, h, hp, hl => by
    simp only [List.getElem?_cons_zero, Option.some.injEq, Prod.mk.injEq] at h
    obtain ⟨rfl, rfl⟩ := h
    simp only [Nat.add_zero] at hp
    simp only [slotsOf, hp, cond_true]
    rw [slotsOf_congr l (i + 1) _ ((t, y) :: s) p (fun _ => false) rfl (fun k z hk => by
      have := hl (k + 1) z (by omega) (by simpa using hk)
      rw [show i + 1 + k = i + (k + 1) by omega]; exact this)]
    have : ∀ (l : List (Option Nat × AV C.S.El)) (i : Nat) (s : List (Nat × AV C.S.El)), slotsOf s (fun _ => false) l i = s := by
      intro l
      induction l with
      | nil => exact fun _ _ => rfl
      | cons a l ih => intro i s; obtain ⟨d, y⟩ := a; simp only [slotsOf, cond_false]; exact ih _ _
    rw [this]
    simp [lk]
  | (d, y) :: l, i, s, p, k + 1, h, hp, hl => by
    simp only [slotsOf]
    exact slotsOf_last l (i + 1) _ p k (by simpa using h) (by rw [show i + 1 + k = i + (k + 1) by omega]; exact hp) (fun k' z hk hz => by
      have := hl (k' + 1) z (by omega) (by simpa using hz)
      rw [show i + 1 + k' = i + (k' + 1) by omega]; exact this)


theorem slotsOf_append (s : List (Nat × AV C.S.El)) (p : Nat → Bool) : ∀ (l l' : List (Option Nat × AV C.S.El)) (i : Nat), slotsOf s p (l ++ l') i = slotsOf (slotsOf s p l i) p l' (i + l.length)
  | [], l', i => rfl
  | (d, x) :: l, l', i => by
    simp only [List.cons_append, slotsOf, List.length_cons]
    rw [slotsOf_append _ p l l' (i + 1)]
    congr 1
    omega

theorem slotsOf_false : ∀ (l : List (Option Nat × AV C.S.El)) (i : Nat) (s' : List (Nat × AV C.S.El)), slotsOf s' (fun _ => false) l i = s'
  | [], _, _ => rfl
  | (d, y) :: l, i, s => by simp only [slotsOf, cond_false]; exact slotsOf_false l _ _

theorem slotsOf_take (s : List (Nat × AV C.S.El)) (vs : List (Option Nat × AV C.S.El)) (k t : Nat) : lk (slotsOf s (fun _ => true) (vs.take k) 0) t = lk (slotsOf s (fun i => decide (i < k)) vs 0) t := by
  have h : vs = vs.take k ++ vs.drop k := (List.take_append_drop k vs).symm
  have hs : lk (slotsOf s (fun i => decide (i < k)) (vs.take k ++ vs.drop k) 0) t = lk (slotsOf s (fun _ => true) (vs.take k) 0) t := by
    rw [slotsOf_append]
    have e1 : lk (slotsOf s (fun i => decide (i < k)) (vs.take k) 0) t = lk (slotsOf s (fun _ => true) (vs.take k) 0) t := slotsOf_congr _ 0 s s _ _ rfl (fun j x hj => by
      have := (List.getElem?_eq_some_iff.1 hj).1
      simp only [List.length_take] at this
      simp; omega)
    rw [← e1]
    have e2 : ∀ s', lk (slotsOf s' (fun i => decide (i < k)) (vs.drop k) (0 + (vs.take k).length)) t = lk (slotsOf s' (fun _ => false) (vs.drop k) (0 + (vs.take k).length)) t := by
      intro s'
      refine slotsOf_congr (vs.drop k) _ s' s' _ _ rfl (fun j x hj => ?_)
      have := (List.getElem?_eq_some_iff.1 hj).1
      simp only [List.length_drop, List.length_take] at this ⊢
      simp; omega
    rw [e2, slotsOf_false]
  rw [← hs, ← h]

/-- What the reckoner saw of one of the first operations. -/
def StepOk (C : Cx) (all : List Oper) (st : St C.S.El) (o : Oper) (x : AV C.S.El) : Prop :=
  (o.guard = none ∧ ∃ ps, evD C o (rhoOf C st o) st.objs = some (ps, x) ∧ ∀ p ∈ owedOf C st o none ++ ps, p) ∨
  ∃ j want g ps y, o.guard = some (j, want) ∧ guardB st.slots all j want = some g ∧ evD C o (rhoOf C st o) st.objs = some (ps, y) ∧ x = .gd g (bare y) ∧ ∀ p ∈ if0 g (owedOf C st o (some g) ++ own1 y ++ ps), p

def pushS (st : St C.S.El) (d : Option Nat) (x : AV C.S.El) : St C.S.El := { st with slots := match d with | some d => (d, x) :: st.slots | none => st.slots }

def LexOk (C : Cx) (all : List Oper) : List Oper → List (Option Nat × AV C.S.El) → St C.S.El → Prop
  | _, [], _ => True
  | o :: l, (d, x) :: vs, st => d = o.dst ∧ (∀ t, d = some t → t < st.n) ∧ StepOk C all st o x ∧ LexOk C all l vs (pushS st d x)
  | [], _ :: _, _ => False

theorem putD_push {st st' : St C.S.El} {d : Option Nat} {x : AV C.S.El} (h : putD st d x = some st') : st' = pushS st d x ∧ ∀ t, d = some t → t < st.n := by
  unfold putD at h
  cases d with
  | none => cases h; exact ⟨rfl, by simp⟩
  | some d =>
    obtain ⟨hd, h⟩ := cond_some h
    cases h
    refine ⟨rfl, fun t ht => ?_⟩
    cases ht
    simp only [Nat.blt, Nat.ble_eq] at hd
    omega

theorem evDs_spec {all : List Oper} : ∀ (m : Nat) (l : List Oper) (st : St C.S.El) (K : List Oper → St C.S.El → Prop), evDs C all m l st K → ∃ vs, LexOk C all l vs st ∧ vs.length = min m l.length ∧ K (l.drop m) { st with slots := slotsOf st.slots (fun _ => true) vs 0 }
  | 0, l, st, K, h => ⟨[], by simp [LexOk], by simp, h⟩
  | m + 1, [], st, K, h => ⟨[], by simp [LexOk], by simp, h⟩
  | m + 1, o :: l, st, K, h => by
    have key : ∀ x st', putD st o.dst x = some st' → StepOk C all st o x → evDs C all m l st' K → ∃ vs, LexOk C all (o :: l) vs st ∧ vs.length = min (m + 1) (o :: l).length ∧ K ((o :: l).drop (m + 1)) { st with slots := slotsOf st.slots (fun _ => true) vs 0 } := by
      intro x st' hput hstep hrest
      obtain ⟨rfl, hb⟩ := putD_push hput
      obtain ⟨vs, h1, h2, h3⟩ := evDs_spec m l _ K hrest
      refine ⟨(o.dst, x) :: vs, ⟨rfl, hb, hstep, h1⟩, by simp [h2], ?_⟩
      have e : slotsOf st.slots (fun _ => true) ((o.dst, x) :: vs) 0 = slotsOf (pushS st o.dst x).slots (fun _ => true) vs 0 := by
        simp only [slotsOf, cond_true, pushS]
        have : ∀ (vs : List (Option Nat × AV C.S.El)) (i j : Nat) (s : List (Nat × AV C.S.El)), slotsOf s (fun _ => true) vs i = slotsOf s (fun _ => true) vs j := by
          intro vs
          induction vs with
          | nil => exact fun _ _ _ => rfl
          | cons a vs ih => intro i j s; obtain ⟨d, y⟩ := a; simp only [slotsOf, cond_true]; exact ih _ _ _
        exact this _ _ _ _
      rw [e]
      exact h3
    simp only [evDs] at h
    split at h
    · rename_i hgd
      split at h
      · rename_i ps x hev
        split at h
        · rename_i st' hput
          rw [also_iff] at h
          exact key x st' hput (.inl ⟨hgd, ps, hev, h.1⟩) h.2
        · exact h.elim
      · exact h.elim
    · rename_i j want hgd
      split at h
      · exact h.elim
      · rename_i g hg
        split at h
        · rename_i ps y hev
          split at h
          · rename_i st' hput
            rw [also_iff] at h
            exact key _ st' hput (.inr ⟨j, want, g, ps, y, hgd, hg, hev, rfl, h.1⟩) h.2
          · exact h.elim
        · exact h.elim

theorem LexOk.get {all : List Oper} : ∀ (l : List Oper) (vs : List (Option Nat × AV C.S.El)) (st : St C.S.El), LexOk C all l vs st → ∀ k d x, vs[k]? = some (d, x) → ∃ o, l[k]? = some o ∧ d = o.dst ∧ (∀ t, d = some t → t < st.n) ∧ StepOk C all { st with slots := slotsOf st.slots (fun _ => true) (vs.take k) 0 } o x
  | l, [], st, h, k, d, x, hk => by simp at hk
  | [], v :: vs, st, h, k, d, x, hk => h.elim
  | o :: l, (d0, x0) :: vs, st, h, 0, d, x, hk => by
    simp only [List.getElem?_cons_zero, Option.some.injEq, Prod.mk.injEq] at hk
    obtain ⟨rfl, rfl⟩ := hk
    exact ⟨o, rfl, h.1, h.2.1, h.2.2.1⟩
  | o :: l, (d0, x0) :: vs, st, h, k + 1, d, x, hk => by
    obtain ⟨o', h1, h2, h3, h4⟩ := LexOk.get l vs _ h.2.2.2 k d x (by simpa using hk)
    refine ⟨o', by simpa using h1, h2, h3, ?_⟩
    have e : slotsOf st.slots (fun _ => true) (((d0, x0) :: vs).take (k + 1)) 0 = slotsOf (pushS st d0 x0).slots (fun _ => true) (vs.take k) 0 := by
      simp only [List.take_succ_cons, slotsOf, cond_true, pushS]
      have : ∀ (vs : List (Option Nat × AV C.S.El)) (i j : Nat) (s : List (Nat × AV C.S.El)), slotsOf s (fun _ => true) vs i = slotsOf s (fun _ => true) vs j := by
        intro vs
        induction vs with
        | nil => exact fun _ _ _ => rfl
        | cons a vs ih => intro i j s; obtain ⟨d, y⟩ := a; simp only [slotsOf, cond_true]; exact ih _ _ _
      exact this _ _ _ _
    rw [e]
    exact h4


/-- One of the first operations, when it comes up. -/
theorem step_sound (hC : CxOk C) {all : List Oper} {st : St C.S.El} {o : Oper} {x : AV C.S.El} (hst : StepOk C all st o x) {a : Act} (hI : Inv C.S B env w st.objs)
    (hops : ∀ y ∈ o.op.operands.toList, Γ C.S env w (look C st.slots y) (a.eval y)) (hgd : ∀ j want, o.guard = some (j, want) → ∀ d, (all[j]?).bind (·.dst) = some d → Γ C.S env w (lk st.slots d) (a.tmps.getD d undef))
    {next : Act → World → Prop} {Q : Exit → Act → World → Prop} (hnext : ∀ v env' w', Γ C.S env' w' x v → Inv C.S B env' w' st.objs → Ext B st.objs.length env w env' w' → next (a.put o.dst v) w') :
    if Region.wanted o (yielded all.toArray a.tmps) then o.wp C.P a w next Q else next (a.put o.dst undef) w := by
  rcases hst with ⟨hg, ps, hev, hp⟩ | ⟨j, want, g, ps, y, hg, hgb, hev, rfl, hp⟩
  · rw [if_pos (by simp [Region.wanted, hg])]
    have hρ := rhoOf_sound' hops (g := none) (.inl rfl) (fun p hpp => hp p (List.mem_append.2 (.inl hpp)))
    exact (evD_sound hC hI hρ hev (fun p hpp => hp p (List.mem_append.2 (.inr hpp)))).wp fun v w' ⟨env', h1, h2, h3⟩ => hnext v env' w' h1 h2 h3
  · have hwant : Region.wanted o (yielded all.toArray a.tmps) = g := by
      simp only [Region.wanted, hg]
      exact guardB_sound' (hgd j want hg) hgb
    rw [hwant]
    cases g
    · simp only [Bool.false_eq_true, if_false]
      exact hnext undef env w (.gd _ _ _ (by simp) (fun _ => rfl)) hI (Ext.refl _ _ _ _)
    · simp only [if_true]
      have hp' := if0_mem (p := True) _ hp rfl
      have hρ := rhoOf_sound' hops (g := some true) (.inr rfl) (fun p hpp => hp' p (List.mem_append.2 (.inl (List.mem_append.2 (.inl hpp)))))
      refine (evD_sound hC hI hρ hev (fun p hpp => hp' p (List.mem_append.2 (.inr hpp)))).wp fun v w' ⟨env', h1, h2, h3⟩ => ?_
      have hb := gd_value h1 (fun p hpp => hp' p (List.mem_append.2 (.inl (List.mem_append.2 (.inr hpp)))))
      exact hnext v env' w' (.gd true _ v (fun _ => hb) (by simp)) h2 h3

def unl (n : Nat) (L : Array Bool) : Nat := ((List.range n).filter fun i => !L.getD i false).length

theorem filter_one {l : List Nat} (hn : l.Nodup) {i : Nat} (hi : i ∈ l) {p q : Nat → Bool} (hp : p i = true) (hq : q i = false) (h : ∀ j, j ≠ i → q j = p j) : (l.filter q).length + 1 = (l.filter p).length := by
  induction l with
  | nil => cases hi
  | cons a l ih =>
    rw [List.nodup_cons] at hn
    by_cases ha : a = i
    · subst ha
      have : l.filter q = l.filter p := List.filter_congr fun j hj => h j (fun e => hn.1 (e ▸ hj))
      simp [hp, hq, this]
    · have hi' : i ∈ l := by
        rcases List.mem_cons.1 hi with h | h
        · exact absurd h.symm ha
        · exact h
      have := ih hn.2 hi'
      have hqa := h a ha
      cases hpa : p a
      · rw [hpa] at hqa; simp [hpa, hqa, this]
      · rw [hpa] at hqa; simp [hpa, hqa]; omega

theorem getD_set (L : Array Bool) (i j : Nat) (hi : i < L.size) : (L.setIfInBounds i true).getD j false = if i = j then true else L.getD j false := by
  simp only [Array.getD_eq_getD_getElem?, Array.getElem?_setIfInBounds]
  by_cases h : i = j
  · subst h; simp [hi]
  · simp [h]

theorem unl_set {n : Nat} {L : Array Bool} (hs : L.size = n) {i : Nat} (hi : i < n) (hL : L.getD i false = false) : unl n (L.setIfInBounds i true) + 1 = unl n L :=
  filter_one List.nodup_range (List.mem_range.2 hi) (by simp [hL]) (by rw [getD_set _ _ _ (by omega)]; simp) (fun j hj => by rw [getD_set _ _ _ (by omega), if_neg (fun e => hj e.symm)])

theorem unl_zero {n : Nat} {L : Array Bool} (h : unl n L = 0) {i : Nat} (hi : i < n) : L.getD i false = true := by
  unfold unl at h
  have := List.eq_nil_of_length_eq_zero h
  cases hL : L.getD i false
  · have hm : i ∈ (List.range n).filter fun i => !L.getD i false := List.mem_filter.2 ⟨List.mem_range.2 hi, by simp [hL]⟩
    rw [this] at hm; cases hm
  · rfl

theorem ready_iff {all : List Oper} {L : Array Bool} (hs : L.size = all.length) {i : Nat} : i ∈ Region.ready .any all.toArray L ↔ ∃ o, all[i]? = some o ∧ L.getD i false = false ∧ ∀ e ∈ o.after.toList, Region.binds .any e = true → L.getD e.on false = true := by
  rw [mem_ready]
  simp only [List.getElem?_toArray]
  constructor
  · rintro ⟨h1, o, h2, h3⟩
    have hi : i < L.size := by rw [hs]; exact (List.getElem?_eq_some_iff.1 h2).1
    refine ⟨o, h2, ?_, fun e he hb => h3 e (by simpa using he) hb⟩
    simp only [Array.getD_eq_getD_getElem?, Array.getElem?_eq_getElem hi] at h1 ⊢
    exact h1
  · rintro ⟨o, h2, h1, h3⟩
    have hi : i < L.size := by rw [hs]; exact (List.getElem?_eq_some_iff.1 h2).1
    refine ⟨?_, o, h2, fun e he hb => h3 e (by simpa using he) hb⟩
    simp only [Array.getD_eq_getD_getElem?, Array.getElem?_eq_getElem hi] at h1 ⊢
    exact h1


def ClosedL (all : List Oper) (L : Array Bool) : Prop := ∀ i o, all[i]? = some o → L.getD i false = true → ∀ e ∈ o.after.toList, Region.binds .any e = true → L.getD e.on false = true

theorem wpOp_of {P : Program} {all : List Oper} {Q : Exit → Act → World → Prop} {i : Nat} {o : Oper} (ho : all[i]? = some o) {K : Act → World → Prop} {a : Act} {w : World}
    (h : if Region.wanted o (yielded all.toArray a.tmps) then o.wp P a w K Q else K (a.put o.dst undef) w) : wpOp P all.toArray Q i K a w := by
  unfold wpOp
  simp only [List.getElem?_toArray, ho]
  split
  · rename_i hw; rw [if_pos hw] at h; exact .inl h
  · rename_i hw; rw [if_neg hw] at h; exact h

section region
variable {inl : Inl C.S.El} {all : List Oper} {st : St C.S.El} {vs : List (Option Nat × AV C.S.El)} {K : St C.S.El → Prop} {Q : Exit → Act → World → Prop}

theorem tail_sound (hC : CxOk C) (hinl : InlOk C inl) (hplainF : ∀ f args H K, inl f args H K → Plain C.P f)
    (hed : ∀ i o, all[i]? = some o → ∀ e ∈ o.after.toList, Region.binds .any e = true → e.on < i) (htl : ∀ j, vs.length ≤ j → j < all.length → ∀ i, i < j → ahead (bitsBefore all) i j = true)
    (hQ : ∀ st' env' a' w', K st' → Rel C B env' st' a' w' → st'.lo = st.lo → Ext B st.lo env w env' w' → Q .normal a' w') :
    ∀ (fuel k : Nat) (L : Array Bool) (env' : Env) (a : Act) (w' : World) (st' : St C.S.El), L.size = all.length → (∀ i, i < all.length → L.getD i false = decide (i < k)) → k ≤ all.length → vs.length ≤ k → evOps C inl all (all.drop k) st' K → Rel C B env' st' a w' → st'.lo = st.lo →
      Ext B st.lo env w env' w' → unl all.length L = fuel → wpAny C.P .any all.toArray Q fuel L a w' := by
  intro fuel
  induction fuel with
  | zero =>
    intro k L env' a w' st' hs hL hk hm hev hr hlo hE hu
    have hkn : k = all.length := by
      rcases Nat.lt_or_ge k all.length with h | h
      · have := unl_zero hu h; rw [hL k h] at this; simp at this
      · omega
    subst hkn
    rw [List.drop_length] at hev
    refine ⟨?_, hQ st' env' a w' hev hr hlo hE⟩
    refine List.eq_nil_iff_forall_not_mem.2 fun i hi => ?_
    obtain ⟨o, ho, h1, _⟩ := (ready_iff hs).1 hi
    have := (List.getElem?_eq_some_iff.1 ho).1
    rw [unl_zero hu this] at h1; cases h1
  | succ fuel ih =>
    intro k L env' a w' st' hs hL hk hm hev hr hlo hE hu
    have hkn : k < all.length := by
      rcases Nat.lt_or_ge k all.length with h | h
      · exact h
      · exfalso
        have hz : unl all.length L = 0 := by
          unfold unl
          rw [List.length_eq_zero_iff, List.filter_eq_nil_iff]
          intro i hi
          rw [List.mem_range] at hi
          rw [hL i hi]; simp; omega
        omega
    have hcl : ∀ i o, all[i]? = some o → L.getD i false = true → ∀ e ∈ o.after.toList, Region.binds .any e = true → L.getD e.on false = true := by
      intro i o ho hi e he hb
      have h1 := hed i o ho e he hb
      have h2 := (List.getElem?_eq_some_iff.1 ho).1
      rw [hL i h2] at hi
      rw [hL e.on (by omega)]
      simp at hi ⊢; omega
    have hok : all[k]? = some all[k] := List.getElem?_eq_getElem hkn
    have hkr : k ∈ Region.ready .any all.toArray L := (ready_iff hs).2 ⟨_, hok, by rw [hL k hkn]; simp, fun e he hb => by
      have := hed k _ hok e he hb
      rw [hL e.on (by omega)]; simpa using this⟩
    refine ⟨(fun h => by rw [h] at hkr; cases hkr), fun i hi => ?_⟩
    obtain ⟨o, ho, h1, h2⟩ := (ready_iff hs).1 hi
    have hin := (List.getElem?_eq_some_iff.1 ho).1
    have hik : i = k := by
      rw [hL i hin] at h1
      simp only [decide_eq_false_iff_not, Nat.not_lt] at h1
      rcases Nat.eq_or_lt_of_le h1 with h | h
      · exact h.symm
      · exfalso
        have := ahead_closed (L := fun i => L.getD i false) hed hcl i o ho h2 k (htl i (by omega) hin k h)
        rw [hL k hkn] at this; simp at this
    subst hik
    have hdrop : all.drop i = o :: all.drop (i + 1) := by
      rw [List.drop_eq_getElem_cons hkn]
      congr 1
      have := List.getElem?_eq_getElem hkn
      rw [ho] at this
      exact (Option.some.inj this).symm
    rw [hdrop] at hev
    refine wpOp_of ho (evOps_head hC hinl hplainF hev hr fun st1 env1 a1 w1 k1 k2 k3 k4 => ?_)
    refine ih (i + 1) _ env1 a1 w1 st1 (by simpa using hs) (fun j hj => ?_) (by omega) (by omega) k1 k2 (k3.trans hlo) (hE.trans (by rw [hlo] at k4; exact k4)) (by have := unl_set hs hin (by rw [hL i hin]; simp); omega)
    rw [getD_set _ _ _ (by omega), hL j hj]
    by_cases h : i = j
    · subst h; simp
    · rw [if_neg h]
      have : (j < i) ↔ (j < i + 1) := by omega
      simp [this]

theorem pre_sound (hC : CxOk C) (hinl : InlOk C inl) (hplainF : ∀ f args H K, inl f args H K → Plain C.P f)
    (hed : ∀ i o, all[i]? = some o → ∀ e ∈ o.after.toList, Region.binds .any e = true → e.on < i) (htl : ∀ j, vs.length ≤ j → j < all.length → ∀ i, i < j → ahead (bitsBefore all) i j = true)
    (hap : ∀ i j oi oj, i < j → all[i]? = some oi → all[j]? = some oj → ahead (bitsBefore all) i j = true ∨ ((∀ d, oi.dst = some d → d ∉ names all oj) ∧ ∀ d, oj.dst = some d → d ∉ names all oi))
    (hlex : LexOk C all all vs st) (hmle : vs.length ≤ all.length) (hrest : evOps C inl all (all.drop vs.length) { st with slots := slotsOf st.slots (fun _ => true) vs 0 } K) (hlo : st.lo ≤ st.objs.length) (hfr : ∀ i v, env.val i = some v → i < st.objs.length)
    (hQ : ∀ st' env' a' w', K st' → Rel C B env' st' a' w' → st'.lo = st.lo → Ext B st.lo env w env' w' → Q .normal a' w') :
    ∀ (fuel : Nat) (L : Array Bool) (env' : Env) (a : Act) (w' : World), L.size = all.length → ClosedL all L → (∀ i, vs.length ≤ i → L.getD i false = false) → a.tmps.size = st.n → a.defers = [] →
      (∀ t, Γ C.S env' w' (lk (slotsOf st.slots (fun i => L.getD i false) vs 0) t) (a.tmps.getD t undef)) → Inv C.S B env' w' st.objs → Ext B st.objs.length env w env' w' → unl all.length L = fuel → wpAny C.P .any all.toArray Q fuel L a w' := by
  intro fuel
  induction fuel with
  | zero =>
    intro L env' a w' hs hcl hge hsz hdf hsl hI hE hu
    have hall : ∀ i, i < vs.length → L.getD i false = true := fun i hi => unl_zero hu (by omega)
    have hmn : vs.length = all.length := by
      rcases Nat.lt_or_ge vs.length all.length with h | h
      · have := unl_zero hu h; rw [hge _ (Nat.le_refl _)] at this; cases this
      · omega
    refine tail_sound (env := env) (w := w) (st := st) hC hinl hplainF hed htl hQ 0 vs.length L env' a w' _ hs (fun i hi => ?_) hmle (Nat.le_refl _) hrest ⟨hsz, hdf, fun t => ?_, hI, hlo⟩ rfl (hE.mono hlo) hu
    · rw [hall i (by omega)]; simp; omega
    · have := hsl t
      rwa [slotsOf_congr vs 0 st.slots st.slots _ (fun _ => true) rfl (fun k x hk => by rw [Nat.zero_add]; exact hall k (List.getElem?_eq_some_iff.1 hk).1)] at this
  | succ fuel ih =>
    intro L env' a w' hs hcl hge hsz hdf hsl hI hE hu
    by_cases hall : ∀ i, i < vs.length → L.getD i false = true
    · refine tail_sound (env := env) (w := w) (st := st) hC hinl hplainF hed htl hQ _ vs.length L env' a w' _ hs (fun i hi => ?_) hmle (Nat.le_refl _) hrest ⟨hsz, hdf, fun t => ?_, hI, hlo⟩ rfl (hE.mono hlo) hu
      · by_cases h : i < vs.length
        · rw [hall i h]; simp [h]
        · rw [hge i (by omega)]; simp [h]
      · have := hsl t
        rwa [slotsOf_congr vs 0 st.slots st.slots _ (fun _ => true) rfl (fun k x hk => by rw [Nat.zero_add]; exact hall k (List.getElem?_eq_some_iff.1 hk).1)] at this
    · obtain ⟨i0, ⟨hi0, hL0⟩, hmin⟩ := exists_least (p := fun i => i < vs.length ∧ L.getD i false = false) (by
        refine Classical.byContradiction fun hno => hall fun i hi => ?_
        cases hL : L.getD i false
        · exact absurd ⟨i, hi, hL⟩ hno
        · rfl)
      have hi0n : i0 < all.length := by omega
      have hr0 : i0 ∈ Region.ready .any all.toArray L := (ready_iff hs).2 ⟨_, List.getElem?_eq_getElem hi0n, hL0, fun e he hb => by
        have := hed i0 _ (List.getElem?_eq_getElem hi0n) e he hb
        cases hL : L.getD e.on false
        · have := hmin e.on ⟨by omega, hL⟩; omega
        · rfl⟩
      refine ⟨(fun h => by rw [h] at hr0; cases hr0), fun i hi => ?_⟩
      obtain ⟨o, ho, h1, h2⟩ := (ready_iff hs).1 hi
      have hin := (List.getElem?_eq_some_iff.1 ho).1
      have hah : ∀ j, ahead (bitsBefore all) j i = true → L.getD j false = true := ahead_closed (L := fun i => L.getD i false) hed hcl i o ho h2
      have him : i < vs.length := by
        rcases Nat.lt_or_ge i vs.length with h | h
        · exact h
        · have := hah i0 (htl i h hin i0 (by omega)); rw [hL0] at this; cases this
      obtain ⟨d, x, hvi⟩ : ∃ d x, vs[i]? = some (d, x) := ⟨vs[i].1, vs[i].2, by rw [List.getElem?_eq_getElem him]⟩
      obtain ⟨o', ho', hd, hb, hstep⟩ := hlex.get all vs st i d x hvi
      rw [ho] at ho'
      cases ho'
      have hdst : ∀ (k : Nat) (t : Nat) (y : AV C.S.El), vs[k]? = some (some t, y) → ∃ ok : Oper, all[k]? = some ok ∧ ok.dst = some t := fun k t y hk => by
        obtain ⟨ok, q1, q2, _⟩ := hlex.get all vs st k (some t) y hk
        exact ⟨ok, q1, q2.symm⟩
      have hlater : ∀ (k : Nat) (ok : Oper), i < k → all[k]? = some ok → ahead (bitsBefore all) i k = true → L.getD k false = false := fun k ok hk hok ha => by
        cases hLk : L.getD k false
        · rfl
        · have := ahead_closed (L := fun i => L.getD i false) hed hcl k ok hok (hcl k ok hok hLk) i ha
          rw [h1] at this; cases this
      have hslot : ∀ t, t ∈ looks all o → Γ C.S env' w' (lk (slotsOf st.slots (fun _ => true) (vs.take i) 0) t) (a.tmps.getD t undef) := by
        intro t ht
        have htn : t ∈ names all o := by unfold names; exact List.mem_append.2 (.inr ht)
        rw [slotsOf_take, ← slotsOf_congr vs 0 st.slots st.slots (fun i => L.getD i false) _ rfl (fun k y hk => ?_)]
        · exact hsl t
        · rw [Nat.zero_add]
          obtain ⟨ok, hok, hokd⟩ := hdst k t y hk
          rcases Nat.lt_trichotomy k i with hki | hki | hki
          · rcases hap k i ok o hki hok ho with h | h
            · rw [hah k h]; simp [hki]
            · exact absurd htn (h.1 t hokd)
          · subst hki; rw [h1]; simp
          · rcases hap i k o ok hki ho hok with h | h
            · rw [hlater k ok hki hok h]; simp; omega
            · exact absurd htn (h.2 t hokd)
      refine wpOp_of ho (step_sound (st := { st with slots := slotsOf st.slots (fun _ => true) (vs.take i) 0 }) hC hstep hI (fun y hy => ?_) (fun j want hg dd hdd => ?_) fun v env1 w1 q1 q2 q3 => ?_)
      · cases y with
        | tmp t => exact hslot t (List.mem_append.2 (.inl (List.mem_flatMap.2 ⟨_, hy, by simp⟩)))
        | const u => exact .v u
        | global g => exact hI.glob g
        | func f => exact .clo f [] #[] rfl (fun j => by simpa using Γ.any (S := C.S) _)
      · refine hslot dd (List.mem_append.2 (.inr ?_))
        rw [hg]
        simp only [nth_eq, hdd]
        simp
      · refine ih _ env1 _ w1 (by simpa using hs) (fun k ok hok hk e he hb' => ?_) (fun k hk => ?_) (by cases hod : o.dst <;> simp [Act.put, hsz]) (by cases hod : o.dst <;> simp [Act.put, hdf]) (fun t => ?_) q2 (hE.trans q3) (by have := unl_set hs hin h1; omega)
        · rw [getD_set _ _ _ (by omega)] at hk ⊢
          by_cases hik : i = k
          · subst hik
            rw [ho] at hok; cases hok
            split
            · rfl
            · exact h2 e he hb'
          · rw [if_neg hik] at hk
            split
            · rfl
            · exact hcl k ok hok hk e he hb'
        · rw [getD_set _ _ _ (by omega), if_neg (by omega)]; exact hge k hk
        · by_cases hdt : o.dst = some t
          · have e1 : lk (slotsOf st.slots (fun k => (L.setIfInBounds i true).getD k false) vs 0) t = x := by
              refine slotsOf_last vs 0 st.slots _ i (by rw [hvi, hd, hdt]) (by rw [Nat.zero_add, getD_set _ _ _ (by omega), if_pos rfl]) (fun k y hk hky => ?_)
              rw [Nat.zero_add, getD_set _ _ _ (by omega), if_neg (by omega)]
              obtain ⟨ok, hok, hokd⟩ := hdst k t y hky
              rcases hap i k o ok hk ho hok with h | h
              · exact hlater k ok hk hok h
              · exact absurd (show t ∈ names all ok by unfold names; rw [hokd]; simp) (h.1 t hdt)
            rw [e1, hdt]
            have ht : t < a.tmps.size := by rw [hsz]; exact hb t (hd.trans hdt)
            have : (a.put (some t) v).tmps.getD t undef = v := by simp [Act.put, Array.getD_eq_getD_getElem?, Array.getElem?_setIfInBounds, ht]
            rw [this]; exact q1
          · have e1 : lk (slotsOf st.slots (fun k => (L.setIfInBounds i true).getD k false) vs 0) t = lk (slotsOf st.slots (fun k => L.getD k false) vs 0) t := by
              refine slotsOf_congr vs 0 st.slots st.slots _ _ rfl (fun k y hk => ?_)
              rw [Nat.zero_add, getD_set _ _ _ (by omega)]
              by_cases hik : i = k
              · subst hik
                obtain ⟨ok, hok, hokd⟩ := hdst i t y hk
                rw [ho] at hok; cases hok
                exact absurd hokd hdt
              · rw [if_neg hik]
            rw [e1]
            have e2 : (a.put o.dst v).tmps.getD t undef = a.tmps.getD t undef := by
              cases hod : o.dst with
              | none => rfl
              | some dd =>
                have hne : dd ≠ t := fun e => hdt (by rw [hod, e])
                simp [Act.put, Array.getD_eq_getD_getElem?, Array.getElem?_setIfInBounds, hne]
            rw [e2]
            exact (hsl t).ext q3 hI.fresh

end region

theorem draw_sound (hC : CxOk C) {inl : Inl C.S.El} (hinl : InlOk C inl) (hplainF : ∀ f args H K, inl f args H K → Plain C.P f) {id : Nat} {ops : Array Oper} (h0 : edgesOk ops.toList = true) (h1 : apartOk ops.toList (bitsBefore ops.toList) = true) (h2 : tailOk ops.toList (bitsBefore ops.toList) (firstM C ops.toList) = true)
    {st : St C.S.El} {K : St C.S.El → Prop} (h : evDs C ops.toList (firstM C ops.toList) ops.toList st fun rest st' => evOps C inl ops.toList rest st' K) {a : Act} (hr : Rel C B env st a w) {Q : Exit → Act → World → Prop}
    (hQ : ∀ st' env' a' w', K st' → Rel C B env' st' a' w' → st'.lo = st.lo → Ext B st.lo env w env' w' → Q .normal a' w') : (Code.region id ops true).wp C.P Q a w := by
  obtain ⟨vs, g1, g2, g3⟩ := evDs_spec _ _ _ _ h
  have hfm : ∀ l : List Oper, firstM C l ≤ l.length := by
    intro l
    induction l with
    | nil => simp [firstM]
    | cons o l ih => simp only [firstM]; cases isDrawn C o <;> simp [ih]
  have hvl : vs.length = firstM C ops.toList := by rw [g2, Nat.min_eq_left (hfm _)]
  rw [← hvl] at g3 h2
  refine wp_region_any hC.mixed ?_
  have hI0 : Inv C.S B env { w with drawn := w.drawn + 1 } st.objs ∧ Ext B st.objs.length env w env { w with drawn := w.drawn + 1 } := hr.inv.below ((Below.refl _ _).drew)
  have hunl : unl ops.toList.length (Array.replicate ops.size false) = ops.size := by
    unfold unl
    rw [List.filter_eq_self.2 (fun i hi => by simp [Array.getD_eq_getD_getElem?, Array.getElem?_replicate]; split <;> rfl)]
    simp
  have hed : ∀ i o, ops.toList[i]? = some o → ∀ e ∈ o.after.toList, Region.binds .any e = true → e.on < i := by
    intro i o ho e he hb
    have := (List.all_eq_true.1 h0) i (List.mem_range.2 (List.getElem?_eq_some_iff.1 ho).1)
    rw [nth_eq, ho] at this
    have := (List.all_eq_true.1 this) e he
    rw [hb, cond_true] at this
    simp only [Nat.blt, Nat.ble_eq] at this
    omega
  have key := pre_sound (all := ops.toList) (env := env) (w := w) (Q := Q) hC hinl hplainF hed
    (fun j hj hjl i hi => by
      have := (List.all_eq_true.1 h2) j (List.mem_range.2 hjl)
      rw [Nat.ble_eq_true_of_le hj, cond_true] at this
      exact (List.all_eq_true.1 this) i (List.mem_range.2 hi))
    (fun i j oi oj hij hi hj => by
      have := (List.all_eq_true.1 h1) j (List.mem_range.2 (List.getElem?_eq_some_iff.1 hj).1)
      have := (List.all_eq_true.1 this) i (List.mem_range.2 hij)
      unfold apart2 at this
      rw [nth_eq, nth_eq, hi, hj] at this
      simp only [Bool.or_eq_true, Bool.and_eq_true] at this
      refine this.imp (fun h => h) fun ⟨q1, q2⟩ => ⟨fun d hd hm => ?_, fun d hd hm => ?_⟩
      · rw [hd] at q1; simp only [disj, Bool.not_eq_true'] at q1; rw [List.contains_iff_mem.2 hm] at q1; cases q1
      · rw [hd] at q2; simp only [disj, Bool.not_eq_true'] at q2; rw [List.contains_iff_mem.2 hm] at q2; cases q2)
    g1 (by rw [hvl]; exact hfm _) g3 hr.lo hr.inv.fresh hQ ops.size (Array.replicate ops.size false) env a { w with drawn := w.drawn + 1 } (by simp)
    (fun i o ho hL => by exfalso; revert hL; simp [Array.getD_eq_getD_getElem?, Array.getElem?_replicate]; split <;> simp)
    (fun i _ => by simp [Array.getD_eq_getD_getElem?, Array.getElem?_replicate]; split <;> simp) hr.size hr.defers (fun t => ?_) hI0.1 hI0.2 hunl
  · simpa using key
  · have e : lk (slotsOf st.slots (fun i => (Array.replicate ops.size false).getD i false) vs 0) t = lk st.slots t := by
      rw [slotsOf_congr vs 0 st.slots st.slots _ (fun _ => false) rfl (fun k x hk => by simp [Array.getD_eq_getD_getElem?, Array.getElem?_replicate]; split <;> simp), slotsOf_false]
    rw [e]
    exact (hr.slots t).ext hI0.2 hr.inv.fresh

end
end Go.Aw
