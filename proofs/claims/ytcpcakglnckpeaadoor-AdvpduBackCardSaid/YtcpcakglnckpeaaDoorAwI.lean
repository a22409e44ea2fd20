/-
  Append, make, copy; calls that make things (own work).
-/
import Derived.Test.YtcpcakglnckpeaaDoorAwZ
import Derived.Maps.AppendAt
set_option linter.unusedSimpArgs false
set_option linter.unusedVariables false
namespace Go.Aw
open Go.RowKit

section
variable {C : Cx} {env : Env} {w : World} {B : Nat} {H : List (AObj C.S.El)}

theorem RowG.ones (hS : SigOk C.S) {t : TypeId} {xs : List (C.S.El t)} {us : List Value} (h : RowG C env w t xs us) : ∀ v ∈ us, v.oneCell' = true := by
  intro v hv
  obtain ⟨k, hk, rfl⟩ := List.getElem_of_mem hv
  have hpos := hS.pos t
  have hk2 : k < xs.length * C.S.sz t := by rw [← h.1]; exact hk
  have hi : k / C.S.sz t < xs.length := Nat.div_lt_of_lt_mul (by rw [Nat.mul_comm]; exact hk2)
  have hj : k % C.S.sz t < C.S.sz t := Nat.mod_lt _ hpos
  have hg := h.2 (k / C.S.sz t) (k % C.S.sz t) hi
  rw [show k / C.S.sz t * C.S.sz t + k % C.S.sz t = k by rw [Nat.mul_comm]; exact Nat.div_add_mod k _] at hg
  have e : us.getD k undef = us[k] := by simp [List.getD, hk]
  rw [e] at hg
  have hl := hS.len t (xs.getD (k / C.S.sz t) (C.S.dflt t))
  have hgm : ∀ (cs : List (AV C.S.El)) j, j < cs.length → cs.getD j .any ∈ cs := fun cs j hj => by rw [List.getD, List.getElem?_eq_getElem hj]; exact List.getElem_mem _
  have hm := hgm (C.S.cell t (xs.getD (k / C.S.sz t) (C.S.dflt t))) (k % C.S.sz t) (by omega)
  exact one_cell (hS.flat t _ _ hm).2 hg

theorem RowG.append (hS : SigOk C.S) {t : TypeId} {xs ys : List (C.S.El t)} {us vs : List Value} (h : RowG C env w t xs us) (k : RowG C env w t ys vs) : RowG C env w t (xs ++ ys) (us ++ vs) := by
  refine ⟨by simp [h.1, k.1, Nat.add_mul], fun i j hi => ?_⟩
  by_cases hj : j < C.S.sz t
  · by_cases hx : i < xs.length
    · have e1 : (xs ++ ys).getD i (C.S.dflt t) = xs.getD i (C.S.dflt t) := by simp [List.getD, List.getElem?_append, hx]
      have hm : (i + 1) * C.S.sz t ≤ xs.length * C.S.sz t := Nat.mul_le_mul_right _ hx
      rw [Nat.add_mul, Nat.one_mul] at hm
      have e2 : (us ++ vs).getD (i * C.S.sz t + j) undef = us.getD (i * C.S.sz t + j) undef := by
        simp only [List.getD, List.getElem?_append, h.1]; rw [if_pos (by omega)]
      rw [e1, e2]
      exact h.2 i j hx
    · have e1 : (xs ++ ys).getD i (C.S.dflt t) = ys.getD (i - xs.length) (C.S.dflt t) := by simp [List.getD, List.getElem?_append, hx]
      have hm : xs.length * C.S.sz t ≤ i * C.S.sz t := Nat.mul_le_mul_right _ (by omega)
      have e2 : (us ++ vs).getD (i * C.S.sz t + j) undef = vs.getD ((i - xs.length) * C.S.sz t + j) undef := by
        simp only [List.getD, List.getElem?_append, h.1]
        rw [if_neg (by omega)]
        congr 2
        rw [Nat.sub_mul]; omega
      rw [e1, e2]
      exact k.2 _ j (by simp at hi; omega)
  · have : (C.S.cell t ((xs ++ ys).getD i (C.S.dflt t))).getD j AV.any = .any := by
      have := hS.len t ((xs ++ ys).getD i (C.S.dflt t))
      generalize C.S.cell t ((xs ++ ys).getD i (C.S.dflt t)) = cs at this ⊢
      rw [List.getD, List.getElem?_eq_none (by omega)]; rfl
    rw [this]; exact .any _

theorem RowG.ext {env' : Env} {w' : World} {N : Nat} (he : Ext B N env w env' w') (hN : ∀ i v, env.val i = some v → i < N) {t : TypeId} {xs : List (C.S.El t)} {us : List Value} (h : RowG C env w t xs us) : RowG C env' w' t xs us :=
  ⟨h.1, fun i j hi => (h.2 i j hi).ext he hN⟩

theorem run_append_none {P : Program} {t ty e : TypeId} {i : TypeInfo} (ht : P.underlying t = some (.slice e)) (hi : P.info? e = some i) (a : Option Addr) (n cap c : Nat) (hn : n ≤ cap) (w : World) :
    (Builtin.append_ #[t, t] ty #[.slice a n cap, .slice none 0 c]).run P w = .ok (.slice a n cap) w := by
  cases a <;> simp [Builtin.append_, run_underlying ht, run_sizeOf hi, Builtin.lenOf, Builtin.firstCells, hn, storeCells]

/-- An own row (or the nil slice), appended to: a new own thing in its stead. -/
theorem append_core (hS : SigOk C.S) (hI : Inv C.S B env w H) {t ty e : TypeId} {i : TypeInfo} (ht : C.P.underlying t = some (.slice e)) (hi : C.P.info? e = some i) (hz : ∃ z, i.zero = some z ∧ z.cells.size = i.size) (hsz : i.size = C.S.sz e) (hby : 1 ≤ i.bytes)
    {v : Value} {xs : List (C.S.El e)} {us : List Value} (hown : w.ownsRow B e (C.S.sz e) v xs.length us) (hxs : RowG C env w e xs us)
    (hfree : ∀ b, v.ownBlock = some b → (∀ k, ¬ env.prot b k) ∧ (∀ j u, live (obj H j) = true → env.val j = some u → blkV u ≠ some b)) {x : AV C.S.El} {vx : Value} {ys : List (C.S.El e)} {f : Bool} (hd : deref H x = .sl e ys f ∨ ∃ H' , True ∧ deref H' x = .sl e ys f ∧ Inv C.S B env w H') (hx : Γ C.S env w x vx)
    (hb : (xs.length + ys.length) * i.bytes ≤ 140737488355328) :
    ∃ v' w' env', (Builtin.append_ #[t, t] ty #[v, vx]).run C.P w = .ok v' w' ∧ Γ C.S env' w' (.gs H.length) v' ∧ Inv C.S B env' w' (H ++ [.row e (xs ++ ys)]) ∧ Ext B H.length env w env' w' := by
  obtain ⟨a, cap, news, rfl, hr, ha, hcell⟩ : ∃ a cap news, vx = .slice a ys.length cap ∧ RowG C env w e ys news ∧ (a = none → ys = []) ∧ (∀ ad, a = some ad → ∀ k y, news[k]? = some y → w.cell? (ad.add k) = some y) := by
    rcases hd with hd | ⟨H', _, hd, hI'⟩
    · exact read_sl hS hI hd hx
    · exact read_sl hS hI' hd hx
  obtain ⟨z, hz1, hz2⟩ := hz
  have hlen : xs.length + ys.length ≤ maxLen := by
    have : xs.length + ys.length ≤ (xs.length + ys.length) * i.bytes := Nat.le_mul_of_pos_right _ hby
    simp only [maxLen]; omega
  obtain ⟨v', w', hrun, hown', hgr, hblk⟩ : ∃ v' w', (Builtin.append_ #[t, t] ty #[v, .slice a ys.length cap]).run C.P w = .ok v' w' ∧ w'.ownsRow B e (C.S.sz e) v' (xs.length + ys.length) (us ++ news) ∧ w.grownBy w' v.ownBlock ∧ (v'.ownBlock = v.ownBlock ∨ v'.ownBlock = some w.heap.size) := by
    cases a with
    | some ad =>
      obtain ⟨v', w', h1, h2, h3, _, h5⟩ := run_append_own_at w B t ty e i z (C.S.sz e) i.bytes ht hi hz1 hsz rfl (by rw [hz2, hsz]) (hS.pos e) v xs.length us hown ad ys.length cap news hr.1 (hcell ad rfl) (hr.ones hS) hlen hb hI.base
      exact ⟨v', w', h1, h2, h3, h5⟩
    | none =>
      have := ha rfl
      subst this
      have hnn : news = [] := List.eq_nil_of_length_eq_zero (by simpa using hr.1)
      subst hnn
      have hv : ∃ a n c, v = .slice a n c ∧ n ≤ c := by
        rcases hown.2 with ⟨e1, _⟩ | ⟨g, c, cur, e1, _, _, e2, _⟩
        · exact ⟨none, 0, 0, e1, Nat.le_refl _⟩
        · exact ⟨_, _, c, e1, e2⟩
      obtain ⟨a', n', c', rfl, hle⟩ := hv
      exact ⟨_, w, run_append_none ht hi a' n' c' cap hle w, by simpa using hown, ⟨rfl, rfl, rfl, Nat.le_refl _, fun _ _ _ => rfl⟩, .inl rfl⟩
  have hOB : ∀ (u : Value) b, (∃ a n c, u = Value.slice a n c) → (blkV u = some b ↔ u.ownBlock = some b) := by
    rintro u b ⟨a, n, c, rfl⟩
    cases a <;> rfl
  have hvs : ∀ {w : World} {u : Value} {n : Nat} {l : List Value}, w.ownsRow B e (C.S.sz e) u n l → ∃ a n c, u = Value.slice a n c := by
    intro w u n l h
    rcases h.2 with ⟨e1, _⟩ | ⟨g, c, cur, e1, _⟩
    · exact ⟨_, _, _, e1⟩
    · exact ⟨_, _, _, e1⟩
  have hold : ∀ b, v.ownBlock = some b → B ≤ b := by
    intro b hb
    rcases hown.2 with ⟨e1, _⟩ | ⟨g, c, cur, e1, e2, _⟩
    · rw [e1] at hb; cases hb
    · rw [e1] at hb; cases hb; exact e2
  have hBel : Below B w w' := (Below.refl B w).grown hgr hI.base (fun k hk => hold k hk)
  have hkeep : ∀ b k, env.prot b k → w'.cell? ⟨b, k, none⟩ = w.cell? ⟨b, k, none⟩ := fun b k hp => by
    refine World.cell?_of_block (hgr.block b (hI.inheap b k hp) fun h => ?_)
    exact (hfree b h.symm).1 k hp
  have hpush := push_obj hI (w' := w') (u := v') (o := .row e (xs ++ ys)) hBel hkeep
    (fun j u b h1 h2 h3 => hgr.block b (live_block hI h1 h2 h3) fun h => (hfree b h.symm).2 j u h3 h1 h2)
    (fun b hb' _ => by
      rw [hOB v' b (hvs hown')] at hb'
      rcases hblk with h | h
      · rw [h] at hb'; exact hfree b hb'
      · rw [h] at hb'; cases hb'
        exact ⟨fun k hp => absurd (hI.inheap _ k hp) (by omega), fun j u h1 h2 h3 => absurd (live_block hI h2 h3 h1) (by omega)⟩)
  have hE0 : Ext B H.length env w ⟨fun j => if j = H.length then some v' else env.val j, env.prot⟩ w' := ⟨hBel, fun j u hj h => by simp only; rw [if_neg (by omega)]; exact h, fun _ _ h => h, hkeep, fun _ _ h => .inl h⟩
  obtain ⟨hI', hE'⟩ := hpush ⟨v', us ++ news, rfl, by rw [List.length_append]; exact hown', fun j k hj hk => ((hxs.append hS hr).ext hE0 hI.fresh).2 j k hj⟩
  obtain ⟨a', n', c', rfl⟩ := hvs hown'
  exact ⟨_, w', _, hrun, .gs _ a' n' c' (by simp), hI', hE'⟩


theorem cell_any (hS : SigOk C.S) (t : TypeId) (x : C.S.El t) {j : Nat} (hj : ¬ j < C.S.sz t) : (C.S.cell t x).getD j AV.any = .any := by
  have := hS.len t x
  generalize C.S.cell t x = cs at this ⊢
  rw [List.getD, List.getElem?_eq_none (by omega)]; rfl

theorem min_mul (a b k : Nat) : min a b * k = min (a * k) (b * k) := by
  rcases Nat.le_total a b with h | h
  · rw [Nat.min_eq_left h, Nat.min_eq_left (Nat.mul_le_mul_right _ h)]
  · rw [Nat.min_eq_right h, Nat.min_eq_right (Nat.mul_le_mul_right _ h)]

theorem RowG.take (hS : SigOk C.S) {t : TypeId} {xs : List (C.S.El t)} {us : List Value} (h : RowG C env w t xs us) (n : Nat) : RowG C env w t (xs.take n) (us.take (n * C.S.sz t)) := by
  refine ⟨by rw [List.length_take, List.length_take, h.1, min_mul], fun i j hi => ?_⟩
  simp only [List.length_take] at hi
  by_cases hj : j < C.S.sz t
  · have e1 : (xs.take n).getD i (C.S.dflt t) = xs.getD i (C.S.dflt t) := by simp only [List.getD, List.getElem?_take]; rw [if_pos (by omega)]
    have hm : (i + 1) * C.S.sz t ≤ n * C.S.sz t := Nat.mul_le_mul_right _ (by omega)
    rw [Nat.add_mul, Nat.one_mul] at hm
    have e2 : (us.take (n * C.S.sz t)).getD (i * C.S.sz t + j) undef = us.getD (i * C.S.sz t + j) undef := by simp only [List.getD, List.getElem?_take]; rw [if_pos (by omega)]
    rw [e1, e2]
    exact h.2 i j (by omega)
  · rw [cell_any hS t _ hj]; exact .any _

theorem RowG.drop {t : TypeId} {xs : List (C.S.El t)} {us : List Value} (h : RowG C env w t xs us) (n : Nat) : RowG C env w t (xs.drop n) (us.drop (n * C.S.sz t)) := by
  refine ⟨by rw [List.length_drop, List.length_drop, h.1, Nat.sub_mul], fun i j hi => ?_⟩
  simp only [List.length_drop] at hi
  have e1 : (xs.drop n).getD i (C.S.dflt t) = xs.getD (n + i) (C.S.dflt t) := by simp only [List.getD, List.getElem?_drop]
  have e2 : (us.drop (n * C.S.sz t)).getD (i * C.S.sz t + j) undef = us.getD ((n + i) * C.S.sz t + j) undef := by
    simp only [List.getD, List.getElem?_drop]
    rw [Nat.add_mul, Nat.add_assoc]
  rw [e1, e2]
  exact h.2 _ j (by omega)

theorem fit_typ {t e : TypeId} (h : elemT C.P t = some e) : C.P.underlying t = some (.slice e) := by
  unfold elemT at h
  split at h
  · cases h; assumption
  · cases h

theorem zeroFit_run {e : TypeId} {i : TypeInfo} (hi : C.P.info? e = some i) (h : zeroFit C.P e = true) : ∃ z, i.zero = some z ∧ z.cells.size = i.size := by
  unfold zeroFit at h
  rw [hi] at h
  simp only [Option.bind_some] at h
  cases hz : i.zero with
  | none => rw [hz] at h; cases h
  | some z =>
    rw [hz] at h
    refine ⟨z, rfl, ?_⟩
    have := Nat.eq_of_beq_eq_true h
    simpa [sizeT, hi] using this

/-- A call under a contract. -/
theorem call_ct (hC : CxOk C) (hI : Inv C.S B env w H) {o : Oper} {a : Act} {c : Call} {rho : Operand → AV C.S.El} (hop : o.op = .call c) (hρ : ∀ x ∈ c.operands.toList, Γ C.S env w (rho x) (a.eval x)) {f : FuncId} {args : List (AV C.S.El)} (ht : targetOf rho c = some (f, args))
    {ct : Ct C.S.El} (hT : C.T f = some ct) {ps : List Prop} {r : AV C.S.El} {news : List (AObj C.S.El)} (hct : ct (argsA C.P c H args) = some (ps, r, news)) (hp : ∀ p ∈ ps, p) (hcl : (argsA C.P c H args).all (lt1 0) = true) :
    Does C.P o a w fun v w' => ∃ env', Γ C.S env' w' (sh2 H.length r) v ∧ Inv C.S B env' w' (freezeAll H (args.flatMap owns1) ++ news) ∧ Ext B H.length env w env' w' ∧ Below w.heap.size w w' := by
  obtain ⟨x, vs, hc2, hx, hg⟩ := targetOf_sound (e := a.eval) (env := env) (w := w) ht hρ
  have hrun := run_call (C := C) (w := w) (o := o) (e := a.eval) hop hc2 hx (hC.plainT f ct hT)
  obtain ⟨env1, v1, I1, E1, l1, g1⟩ := args_sound hC.sig hI c hg
  have hcall := hC.ct f ct hT _ _ _ _ hct hp hcl B env1 w _ _ g1 I1
  unfold Does
  rw [hrun]
  simp only [Array.toArray_toList] at hcall
  refine hcall.mono fun e w' ⟨v, env2, he, hΓ, hI2, hE2, hbel⟩ => ⟨v, he, env2, ?_, hI2, ?_, hbel⟩
  · rw [l1] at hΓ; exact hΓ
  · rw [l1] at hE2; exact E1.trans hE2

theorem evI_sound (hC : CxOk C) (hI : Inv C.S B env w H) {o : Oper} {a : Act} {rho : Operand → AV C.S.El} (hρ : ∀ x ∈ o.op.operands.toList, Γ C.S env w (rho x) (a.eval x)) {ps : List Prop} {r : AV C.S.El} {H' : List (AObj C.S.El)}
    (h : evI C o rho H = some (ps, r, H')) (hp : ∀ p ∈ ps, p) : Does C.P o a w (ImpR C B env w H.length r H') := by
  have hS := hC.sig
  unfold evI at h
  cases hop : o.op <;> rw [hop] at h hρ <;> simp only [reduceCtorEq] at h
  case box t x =>
    simp only [Option.map_eq_some_iff] at h
    obtain ⟨cs, hcs, h⟩ := h
    cases h
    have hg := cellsOf_sound hcs (hρ x (by simp [Op.operands]))
    have hOM := oneMore_alloc w (.cells (a.eval x).cells t)
    have hpush := push_new hI (u := .pointer (some ⟨w.heap.size, 0, none⟩)) (o := .cells cs) hOM (fun b hb => by cases hb; rfl)
    have hE0 : Ext B H.length env w ⟨fun j => if j = H.length then some (.pointer (some ⟨w.heap.size, 0, none⟩)) else env.val j, env.prot⟩ (w.alloc (.cells (a.eval x).cells t)) :=
      ⟨hOM.below.mono hI.base, fun j u hj h => by simp only; rw [if_neg (by omega)]; exact h, fun _ _ h => h, fun b k hp => hOM.below.cell (p := ⟨b, k, none⟩) (hI.inheap b k hp), fun _ _ h => .inl h⟩
    obtain ⟨hI', hE'⟩ := hpush ⟨w.heap.size, _, t, rfl, hI.base, hOM.new, hg.ext hE0 hI.fresh⟩
    exact does_value (v := .pointer (some ⟨w.heap.size, 0, none⟩)) (by simp [execOp, hop, Instr.box, newVar, newRow]) ⟨_, .ref _ 0 w.heap.size (by simp), hI', hE'⟩
  case alloc t =>
    simp only [Option.map_eq_some_iff] at h
    obtain ⟨cs, hcs, h⟩ := h
    cases h
    obtain ⟨zv, hzr, rfl, _⟩ := zeroT_run hcs
    have hg : G2 C.S env w (zv.cells.toList.map .v) zv.cells.toList := G2.vmap _
    have hOM := oneMore_alloc w (.cells zv.cells t)
    have hpush := push_new hI (u := .pointer (some ⟨w.heap.size, 0, none⟩)) (o := .cells (zv.cells.toList.map .v)) hOM (fun b hb => by cases hb; rfl)
    have hE0 : Ext B H.length env w ⟨fun j => if j = H.length then some (.pointer (some ⟨w.heap.size, 0, none⟩)) else env.val j, env.prot⟩ (w.alloc (.cells zv.cells t)) :=
      ⟨hOM.below.mono hI.base, fun j u hj h => by simp only; rw [if_neg (by omega)]; exact h, fun _ _ h => h, fun b k hp => hOM.below.cell (p := ⟨b, k, none⟩) (hI.inheap b k hp), fun _ _ h => .inl h⟩
    obtain ⟨hI', hE'⟩ := hpush ⟨w.heap.size, _, t, rfl, hI.base, hOM.new, hg.ext hE0 hI.fresh⟩
    exact does_value (v := .pointer (some ⟨w.heap.size, 0, none⟩)) (by simp [execOp, hop, Instr.alloc, newVar, newRow, hzr]) ⟨_, .ref _ 0 w.heap.size (by simp), hI', hE'⟩
  case buildSlice t len parts =>
    simp only [Option.map_eq_some_iff] at h
    obtain ⟨sg, hsg, h⟩ := h
    cases h
    obtain ⟨env1, v1, I1, E1, l1, f1⟩ := freezeAll_sound hS (parts.toList.flatMap fun p => owns1 (rho p.2)) env H hI
    have hρ1 : ∀ p ∈ parts.toList, Γ C.S env1 w (deref1 H (rho p.2)) (a.eval p.2) := by
      intro p hp
      have h1 := (hρ p.2 (by simp only [Op.operands]; simp only [Array.toList_map, List.mem_map]; exact ⟨p, hp, rfl⟩)).ext E1 hI.fresh
      have e : deref1 H (rho p.2) = deref1 (freezeAll H (parts.toList.flatMap fun p => owns1 (rho p.2))) (rho p.2) := by
        have hd : deref (freezeAll H (parts.toList.flatMap fun p => owns1 (rho p.2))) = deref H := funext fun x => freezeAll_deref _ H x
        cases rho p.2 <;> simp only [deref1, hd]
      rw [e]
      exact deref1_sound I1 h1 fun j hj => f1 j (List.mem_flatMap.2 ⟨p, hp, hj⟩)
    generalize freezeAll H (parts.toList.flatMap fun p => owns1 (rho p.2)) = H1 at I1 l1 ⊢
    rw [← l1] at E1 ⊢
    obtain ⟨us, hrun, hrow, hlen, hbd⟩ := buildSliceA_sound (rho := fun x => deref1 H (rho x)) (e := a.eval) (env := env1) hS hsg (fun x hx => by
      simp only [Array.toList_map, List.mem_map] at hx
      obtain ⟨p, hp, rfl⟩ := hx
      exact hρ1 p hp)
    have hOM := oneMore_alloc w (.cells us sg.1)
    have hpush := push_new I1 (u := .slice (some ⟨w.heap.size, 0, none⟩) sg.2.length sg.2.length) (o := .row sg.1 sg.2) hOM (fun b hb => by cases hb; rfl)
    have hE0 : Ext B H1.length env1 w ⟨fun j => if j = H1.length then some (.slice (some ⟨w.heap.size, 0, none⟩) sg.2.length sg.2.length) else env1.val j, env1.prot⟩ (w.alloc (.cells us sg.1)) :=
      ⟨hOM.below.mono I1.base, fun j u hj h => by simp only; rw [if_neg (by omega)]; exact h, fun _ _ h => h, fun b k hp => hOM.below.cell (p := ⟨b, k, none⟩) (I1.inheap b k hp), fun _ _ h => .inl h⟩
    obtain ⟨hI', hE'⟩ := hpush ⟨_, us.toList, rfl, ⟨hrow.1, .inr ⟨w.heap.size, _, us, rfl, I1.base, hOM.new, Nat.le_refl _, by simp only [maxLen]; omega, by simpa using hrow.1, List.take_of_length_le (by rw [hrow.1]; exact Nat.le_refl _)⟩⟩, fun i j hi hj => (hrow.ext hE0 I1.fresh).2 i j hi⟩
    have hrun' : (Instr.buildSlice t len (parts.map fun x => (x.1, a.eval x.2))).run C.P w = .ok (.slice (some ⟨w.heap.size, 0, none⟩) sg.2.length sg.2.length) (w.alloc (.cells us sg.1)) := by simpa using hrun
    exact does_value (v := .slice (some ⟨w.heap.size, 0, none⟩) sg.2.length sg.2.length) (by simp [execOp, hop, hrun']) ⟨_, .gs _ _ _ _ (by simp), hI', E1.trans hE'⟩
  case store t ad x =>
    have hx := hρ x (by simp [Op.operands])
    have had := hρ ad (by simp [Op.operands])
    split at h
    · rename_i i off new had' hnew
      rw [had'] at had
      generalize hva : a.eval ad = va at had
      cases had with | ref _ _ b hb =>
      have hn := cellsOf_sound hnew hx
      cases hobj : obj H i with
      | cells cs =>
        rw [hobj] at h
        obtain ⟨hc, h⟩ := cond_some h
        cases h
        simp only [Bool.and_eq_true, Nat.ble_eq] at hc
        obtain ⟨w', h1, h2, h3⟩ := store_cells hI hobj hb hn (Nat.eq_of_beq_eq_true hc.1.1.1) hc.1.1.2 hc.1.2 hc.2
        exact does_skip (w' := w') (by simp [execOp, hop, hva, h1]) ⟨env, .any _, h2, h3⟩
      | _ => rw [hobj] at h; cases h
    · rename_i v i idx off new had' hnew
      rw [had'] at had
      generalize hva : a.eval ad = va at had
      cases had with | rg _ _ _ _ b n cap hb =>
      have hn := cellsOf_sound hnew hx
      cases hobj : obj H i with
      | row u xs =>
        rw [hobj] at h
        obtain ⟨hc, h2⟩ := cond_some h
        clear h
        simp only [Bool.and_eq_true, Nat.ble_eq] at hc
        have huv := Nat.eq_of_beq_eq_true hc.1.1.1.1
        subst huv
        cases hdec : C.S.dec u (over (C.S.cell u (xs.getD idx (C.S.dflt u))) off new) with
        | none => rw [hdec] at h2; cases h2
        | some y =>
          rw [hdec] at h2
          cases h2
          obtain ⟨w', h1, h2, h3⟩ := store_row hS hI hobj hb hn hdec (hp _ (by simp)) (Nat.eq_of_beq_eq_true hc.1.1.1.2) hc.1.1.2 hc.1.2 hc.2
          exact does_skip (w' := w') (by simp [execOp, hop, hva, h1]) ⟨env, .any _, h2, h3⟩
      | _ => rw [hobj] at h; cases h
    · cases h
  case makeSlice t l c =>
    split at h
    · rename_i e kl n kc m he hl hc
      split at h
      · rename_i z hz
        split at h
        · rename_i d hd
          obtain ⟨hb, h⟩ := cond_some h
          cases h
          simp only [Bool.and_eq_true] at hb
          obtain ⟨p1, p2, p3, p4⟩ := hp _ (List.mem_singleton.2 rfl)
          obtain ⟨zv, hzr, rfl, inf, hinf, hiz⟩ := zeroT_run hz
          have hl' := hρ l (by simp [Op.operands])
          have hc' := hρ c (by simp [Op.operands])
          rw [hl] at hl'; rw [hc] at hc'
          have hl2 := hl'.unv
          have hc2 := hc'.unv
          have hbs := bytes_run (C := C) hinf
          have hsz : inf.size = C.S.sz e := by rw [← hbs.2]; exact Nat.eq_of_beq_eq_true hb.1
          have hzl : zv.cells.size = C.S.sz e := by have := Nat.eq_of_beq_eq_true hb.2; simpa using this
          rw [hbs.1] at p3
          have hrun := run_make (P := C.P) w t e inf zv (fit_typ he) hinf hiz kl kc n m p1 p2 p3 p4
          rw [hsz] at hrun
          have hpos := hS.pos e
          have hmz : madeCells zv.cells (m.toNat * C.S.sz e) = (rep m.toNat zv.cells.toList).toArray := by
            rw [← zeros_eq zv.cells m.toNat (C.S.sz e) hzl hpos]; rfl
          have hrepl : ∀ k, rep k zv.cells.toList = (rep k zv.cells.toList) := fun _ => rfl
          have hOM := oneMore_alloc w (.cells (madeCells zv.cells (m.toNat * C.S.sz e)) e)
          have hpush := push_new hI (u := .slice (some ⟨w.heap.size, 0, none⟩) n.toNat m.toNat) (o := .row e (List.replicate n.toNat d)) hOM (fun b hb => by cases hb; rfl)
          have hzd : ∀ (env : Env) (w : World), G2 C.S env w (C.S.cell e d) zv.cells.toList := fun env w => hS.dec e _ d hd env w _ (G2.vmap _)
          have hzlen : zv.cells.toList.length = C.S.sz e := by simpa using hzl
          have hmul : n.toNat * C.S.sz e ≤ m.toNat * C.S.sz e := Nat.mul_le_mul_right _ (by omega)
          have htake : (madeCells zv.cells (m.toNat * C.S.sz e)).toList.take ((List.replicate n.toNat d).length * C.S.sz e) = rep n.toNat zv.cells.toList := by
            rw [hmz, List.length_replicate]
            apply List.ext_getElem?
            intro k
            rw [List.getElem?_take, rep_get _ (by omega) m.toNat, rep_get _ (by omega) n.toNat, hzlen]
            by_cases hk : k < n.toNat * C.S.sz e
            · rw [if_pos hk, if_pos hk, if_pos (by omega)]
            · rw [if_neg hk, if_neg hk]
          obtain ⟨hI', hE'⟩ := hpush ⟨_, rep n.toNat zv.cells.toList, rfl, ⟨by rw [rep_len, hzlen, List.length_replicate], .inr ⟨w.heap.size, m.toNat, _, by rw [List.length_replicate], hI.base, hOM.new, by rw [List.length_replicate]; omega, by simp only [maxLen]; omega, size_madeCells _ _, htake⟩⟩, fun i j hi hj => by
            rw [List.length_replicate] at hi
            have e1 : (List.replicate n.toNat d).getD i (C.S.dflt e) = d := by simp [List.getD, hi]
            have hm : (i + 1) * C.S.sz e ≤ n.toNat * C.S.sz e := Nat.mul_le_mul_right _ hi
            rw [Nat.add_mul, Nat.one_mul] at hm
            have e2 : (rep n.toNat zv.cells.toList).getD (i * C.S.sz e + j) undef = zv.cells.toList.getD j undef := by
              rw [List.getD, rep_get _ (by omega), hzlen, if_pos (by omega), Nat.mul_comm i, Nat.mul_add_mod, Nat.mod_eq_of_lt hj]
              rfl
            rw [e1, e2]
            exact (hzd _ _).2 j⟩
          exact does_value (v := .slice (some ⟨w.heap.size, 0, none⟩) n.toNat m.toNat) (by simp [execOp, hop, hl2, hc2, hrun]) ⟨_, .gs _ _ _ _ (by simp), hI', hE'⟩
        · cases h
      · cases h
    · cases h
  case slice t x lo hi mx =>
    split at h
    · rename_i i hx
      simp only [Option.map_eq_some_iff] at h
      obtain ⟨sg, hsg, h⟩ := h
      cases h
      have hx' := hρ x (by simp [Op.operands])
      obtain ⟨env1, v1, I1, E1, l1⟩ := freeze_one hS hI i
      have hnr : ∀ t xs, obj (freeze1 H i) i ≠ .row t xs := by
        intro t xs
        rw [freeze1_obj, if_pos rfl]
        cases obj H i <;> simp
      rw [hx] at hx'
      have hd := deref_sound I1 (hx'.ext E1 hI.fresh) (by intro j hj; simp only [owns, List.mem_singleton] at hj; subst hj; exact hnr)
      have hdd : deref (freeze1 H i) (.gs i) = deref H (.gs i) := by
        simp only [deref]
        rw [freeze1_obj, if_pos rfl]
        cases obj H i <;> rfl
      rw [hdd] at hd
      obtain ⟨v, hv, hr⟩ := sliceA_sound (lo := lo.map a.eval) (hi := hi.map a.eval) (mx := mx.map a.eval) (env := env1) (w := w) hS (show sliceA C t (lo.map rho) (hi.map rho) (mx.map rho) (deref H (.gs i)) = some (sg.1, sg.2) from hsg) hp hd
        (fun y hy => by
          obtain ⟨z, hz, rfl⟩ := Option.map_eq_some_iff.1 hy
          exact ⟨a.eval z, by rw [hz]; rfl, (hρ z (by simp [Op.operands, hz])).ext E1 hI.fresh⟩) (fun h => by cases lo <;> simp_all)
        (fun y hy => by
          obtain ⟨z, hz, rfl⟩ := Option.map_eq_some_iff.1 hy
          exact ⟨a.eval z, by rw [hz]; rfl, (hρ z (by simp [Op.operands, hz])).ext E1 hI.fresh⟩) (fun h => by cases hi <;> simp_all)
        (fun y hy => by
          obtain ⟨z, hz, rfl⟩ := Option.map_eq_some_iff.1 hy
          exact ⟨a.eval z, by rw [hz]; rfl, (hρ z (by simp [Op.operands, hz])).ext E1 hI.fresh⟩) (fun h => by cases mx <;> simp_all)
      exact does_value (v := v) (by simp [execOp, hop, hv]) ⟨env1, hr, I1, E1⟩
    · cases h
  case call c =>
    split at h
    · rename_i hc
      split at h
      · rename_i s x t t' hargs hts
        split at h
        · rename_i e u ys f he hd
          split at h
          · rename_i hu
            subst hu
            obtain ⟨hb, h2⟩ := cond_some h
            clear h
            simp only [Bool.and_eq_true, Nat.ble_eq] at hb
            obtain ⟨⟨⟨hb1, hb2⟩, hb3⟩, hb4⟩ := hb
            have htt := Nat.eq_of_beq_eq_true hb1
            subst htt
            have hg := G2.map_ops (S := C.S) (env := env) (w := w) (rho := rho) (e := a.eval) c.args.toList (fun y hy => hρ y (by simp [Op.operands, Call.operands, hc]; simpa using hy))
            rw [hargs] at hg
            obtain ⟨vs, us1, hv1, g1, hg2⟩ := hg.uncons
            obtain ⟨vx, us2, hv2, g2, hg3⟩ := hg2.uncons
            have hu2 : us2 = [] := List.eq_nil_of_length_eq_zero hg3.1
            subst hu2; subst hv2
            have hav : c.args.map a.eval = #[vs, vx] := by apply Array.ext'; simpa using hv1
            have hat : c.argTypes = #[t, t] := by apply Array.ext'; simpa using hts
            obtain ⟨inf, hinf, hsz⟩ := info_of_size hS hb2
            have hbs := bytes_run (C := C) hinf
            rw [hbs.1] at hb4
            have hexec : ∀ v' w', (Builtin.append_ #[t, t] o.type #[vs, vx]).run C.P w = .ok v' w' → (execOp a.eval o).run C.P w = .ok (.value v') w' := by
              intro v' w' hr
              simp [execOp, hop, resolve, hc, hav, hat, invoke, builtin, hr]
            split at h2
            · rename_i i
              cases hobj : obj H i with
              | row v xs =>
                rw [hobj] at h2
                simp only at h2
                split at h2
                · rename_i hve
                  subst hve
                  cases h2
                  cases g1 with | gs _ aa nn cc hv =>
                  have ho := hI.objs i
                  rw [hobj] at ho
                  obtain ⟨u', ws, e1, e2, e3⟩ := ho
                  rw [hv] at e1; cases e1
                  have hlive : live (obj H i) = true := by rw [hobj]; rfl
                  have hfg := hI.forget i
                  have hlt : i < H.length := hI.fresh i _ hv
                  have hrow : RowG C env w v xs ws := ⟨e2.1, fun i j hi => by
                    by_cases hj : j < C.S.sz v
                    · exact e3 i j hi hj
                    · have : (C.S.cell v (xs.getD i (C.S.dflt v))).getD j AV.any = .any := by
                        have := hS.len v (xs.getD i (C.S.dflt v))
                        generalize C.S.cell v (xs.getD i (C.S.dflt v)) = cs at this ⊢
                        rw [List.getD, List.getElem?_eq_none (by omega)]; rfl
                      rw [this]; exact .any _⟩
                  obtain ⟨v', w', env', hrun, hΓ, hI', hE'⟩ := append_core (ty := o.type) hS hfg (fit_typ he) hinf (zeroFit_run hinf hb3) hsz hb4 e2 hrow (fun b hb => by
                      have hbv : blkV (.slice aa nn cc) = some b := by cases aa <;> simp [Value.ownBlock, blkV] at hb ⊢; exact hb
                      refine ⟨hI.free i _ b hlive hv hbv, fun j u1 h1 h2 h3 => ?_⟩
                      rw [obj_set H i j _ hlt] at h1
                      by_cases hij : i = j
                      · rw [if_pos hij] at h1; cases h1
                      · rw [if_neg hij] at h1
                        exact hij (hI.apart i j _ u1 b hlive h1 hv h2 hbv h3)) (.inr ⟨H, trivial, hd, hI⟩) g2 (by have := hp _ (List.mem_singleton.2 rfl); rw [hbs.1] at this; exact this)
                  have hlen : (setN H i AObj.gone).length = H.length := by rw [setN_eq, List.length_set]
                  rw [hlen] at hΓ hE'
                  exact does_value (hexec _ _ hrun) ⟨env', hΓ, hI', hE'⟩
                · cases h2
              | _ => rw [hobj] at h2; cases h2
            · cases h2
              cases g1.unv
              obtain ⟨v', w', env', hrun, hΓ, hI', hE'⟩ := append_core (ty := o.type) (xs := []) (us := []) hS hI (fit_typ he) hinf (zeroFit_run hinf hb3) hsz hb4 (World.ownsRow_nil _ _ _ _) ⟨by simp, fun i j hi => by simp at hi⟩ (fun b hb => by cases hb) (.inl hd) g2 (by have := hp _ (List.mem_singleton.2 rfl); rw [hbs.1] at this; simpa using this)
              exact does_value (hexec _ _ hrun) ⟨env', hΓ, by simpa using hI', hE'⟩
            · cases h2
          · cases h
        · cases h
      · cases h
    · rename_i hc
      split at h
      · rename_i i x t0 t1 hargs hts
        cases hobj : obj H i with
        | row u xs =>
          cases hd : deref H x with
          | sl e ys f =>
            rw [hobj, hd] at h
            simp only at h
            split at h
            · rename_i heu
              subst heu
              obtain ⟨hb, h2⟩ := cond_some h
              clear h
              cases h2
              have hg := G2.map_ops (S := C.S) (env := env) (w := w) (rho := rho) (e := a.eval) c.args.toList (fun y hy => hρ y (by simp [Op.operands, Call.operands, hc]; simpa using hy))
              rw [hargs] at hg
              obtain ⟨vd, us1, hv1, g1, hg2⟩ := hg.uncons
              obtain ⟨vx, us2, hv2, g2, hg3⟩ := hg2.uncons
              have hu2 : us2 = [] := List.eq_nil_of_length_eq_zero hg3.1
              subst hu2; subst hv2
              have hav : c.args.map a.eval = #[vd, vx] := by apply Array.ext'; simpa using hv1
              simp only [Bool.and_eq_true] at hb
              obtain ⟨el, hel⟩ := isSl_run hb.2
              obtain ⟨d, el', hd2, hde, hsz⟩ := fitE_run hb.1
              rw [hel] at hd2; cases hd2
              rcases hde with hde | ⟨_, hde⟩ <;> cases hde
              obtain ⟨inf, hinf, hisz⟩ := size_run hS hsz
              have hat : c.argTypes = #[t0, t1] := by apply Array.ext'; simpa using hts
              obtain ⟨ax, capx, news, rfl, hr, ha, hcell⟩ := read_sl hS hI hd g2
              cases g1 with | gs _ ad nd cd hv =>
              have ho := hI.objs i
              rw [hobj] at ho
              obtain ⟨u', ws, e1, e2, e3⟩ := ho
              rw [hv] at e1; cases e1
              have hrow : RowG C env w e xs ws := ⟨e2.1, fun i j hi => by
                by_cases hj : j < C.S.sz e
                · exact e3 i j hi hj
                · rw [cell_any hS e _ hj]; exact .any _⟩
              have hlive : live (obj H i) = true := by rw [hobj]; rfl
              have hnews : (news.take (min ys.length xs.length * C.S.sz e)).length = min ys.length xs.length * C.S.sz e := by
                rw [List.length_take, hr.1, Nat.min_eq_left (Nat.mul_le_mul_right _ (Nat.min_le_left _ _))]
              have hnd : nd = xs.length := by
                rcases e2.2 with ⟨e4, e5⟩ | ⟨g, cap', cur, e4, _⟩
                · cases e4; exact e5.symm
                · cases e4; rfl
              subst hnd
              have hfirst : (Builtin.firstCells (C.S.sz e) (min ys.length xs.length) (.slice ax ys.length capx)).run C.P w = .ok (news.take (min ys.length xs.length * C.S.sz e)).toArray w := by
                cases ax with
                | none =>
                  have := ha rfl
                  subst this
                  have : news = [] := List.eq_nil_of_length_eq_zero (by simpa using hr.1)
                  subst this
                  simp [Builtin.firstCells]
                | some ad' =>
                  exact run_firstCells_some (P := C.P) w _ _ ad' _ capx _ hnews (fun j v hj => hcell ad' rfl j v (by rw [List.getElem?_take] at hj; split at hj; exact hj; cases hj))
              have hmin : min ys.length xs.length = min ys.length xs.length := rfl
              have hnewrow : (ys.take xs.length ++ xs.drop ys.length).length = xs.length := by simp; omega
              have hR : RowG C env w e (ys.take xs.length ++ xs.drop ys.length) (news.take (min ys.length xs.length * C.S.sz e) ++ ws.drop (min ys.length xs.length * C.S.sz e)) := by
                rcases Nat.le_total ys.length xs.length with hle | hle
                · rw [Nat.min_eq_left hle, List.take_of_length_le (show ys.length ≤ xs.length from hle), ← hr.1, List.take_length, hr.1]
                  exact hr.append hS (hrow.drop ys.length)
                · rw [Nat.min_eq_right hle, List.drop_of_length_le (show xs.length ≤ ys.length from hle), ← e2.1, List.drop_length, e2.1]
                  simpa using hr.take hS xs.length
              rcases e2.2 with ⟨e4, e5⟩ | ⟨g, cap', cur, e4, e5, e6, e7, e8, e9, e10⟩
              · have hx0 : xs = [] := List.eq_nil_of_length_eq_zero e5
                subst hx0
                cases e4
                have hset : setN H i (.row e (ys.take 0 ++ List.drop ys.length ([] : List (C.S.El e)))) = H := by
                  have hi : i < H.length := hI.fresh i _ hv
                  rw [setN_eq]
                  apply List.ext_getElem?
                  intro k
                  rw [List.getElem?_set]
                  by_cases hk : i = k
                  · subst hk
                    rw [if_pos rfl, if_pos hi]
                    rw [obj_nth, List.getElem?_eq_getElem hi] at hobj
                    rw [List.getElem?_eq_getElem hi]
                    simpa using hobj.symm
                  · rw [if_neg hk]
                refine does_value (v := .int .i64 ((min ys.length 0 : Nat) : Int)) ?_ ⟨env, .v _, by simp only [List.length_nil]; rw [hset]; exact hI, Ext.refl _ _ _ _⟩
                have hfirst0 : (Builtin.firstCells (C.S.sz e) 0 (.slice ax ys.length capx)).run C.P w = .ok #[] w := by simpa using hfirst
                simp [execOp, hop, resolve, hc, hav, hat, invoke, builtin, Builtin.copy_, run_underlying hel, Builtin.lenOf, run_sizeOf hinf, hisz, hfirst0, goInt]
              · cases e4
                have hle : min ys.length xs.length * C.S.sz e ≤ cur.size := by
                  have h1 : min ys.length xs.length * C.S.sz e ≤ xs.length * C.S.sz e := Nat.mul_le_mul_right _ (Nat.min_le_right _ _)
                  have h2 : xs.length * C.S.sz e ≤ cd * C.S.sz e := Nat.mul_le_mul_right _ e7
                  omega
                have hrs := run_storeCells_at C.P g 0 e (news.take (min ys.length xs.length * C.S.sz e)) 0 cur w e6 (by rw [hnews]; omega) (fun v hv => hr.ones hS v (List.mem_of_mem_take hv))
                simp only [Nat.add_zero, Nat.zero_add, List.take_zero, List.nil_append] at hrs
                rw [hnews] at hrs
                obtain ⟨hI', hE'⟩ := set_obj (o := .row e (ys.take xs.length ++ xs.drop ys.length)) hI hv (b := g) rfl hlive (below_setRow (Below.refl B w) e5 (news.take (min ys.length xs.length * C.S.sz e) ++ cur.toList.drop (min ys.length xs.length * C.S.sz e)).toArray) (fun k hk => setRow_other w g k _ hk) (fun hE => by
                  refine ⟨_, news.take (min ys.length xs.length * C.S.sz e) ++ ws.drop (min ys.length xs.length * C.S.sz e), rfl, ⟨(hR.ext hE hI.fresh).1, .inr ⟨g, cd, _, by rw [hnewrow], e5, setRow_heap w g cur _ e (0, 0) e6, by rw [hnewrow]; exact e7, e8, ?_, ?_⟩⟩, fun i j hi _ => (hR.ext hE hI.fresh).2 i j hi⟩
                  · simp only [List.size_toArray, List.length_append, hnews, List.length_drop, Array.length_toList]; omega
                  · rw [hnewrow]
                    have h1 : min ys.length xs.length * C.S.sz e ≤ xs.length * C.S.sz e := Nat.mul_le_mul_right _ (Nat.min_le_right _ _)
                    rw [List.take_append, List.take_of_length_le (by rw [hnews]; exact h1), hnews]
                    subst e10
                    rw [List.drop_take]) rfl
                refine does_value (v := .int .i64 ((min ys.length xs.length : Nat) : Int)) ?_ ⟨env, .v _, hI', hE'⟩
                simp [execOp, hop, resolve, hc, hav, hat, invoke, builtin, Builtin.copy_, run_underlying hel, Builtin.lenOf, run_sizeOf hinf, hisz, hfirst, hrs, goInt]
            · cases h
          | _ => rw [hobj, hd] at h; cases h
        | _ => rw [hobj] at h; cases h
      · cases h
    · rename_i x0 hc
      split at h
      · rename_i f args ht
        split at h
        · rename_i ct hT
          split at h
          · rename_i ps' r' news hct
            obtain ⟨hb, h⟩ := cond_some h
            cases h
            refine (call_ct hC hI hop (fun y hy => hρ y (by simpa [Op.operands] using hy)) ht hT hct hp hb).mono fun v w' ⟨env', h1, h2, h3, _⟩ => ⟨env', h1, h2, h3⟩
          · cases h
        · cases h
      · cases h
    · cases h

end
end Go.Aw
