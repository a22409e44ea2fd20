/-
  Arguments, opened: what a value of a type of the program looks like, read off the statement's own condition on arguments.
-/
import Derived.Test.YtlnbhdcaebmffaaXAwF
import Derived.WalkKit
import Derived.ProofKit
import Derived.OpenShut
import Derived.Carry
set_option linter.unusedVariables false
namespace Go.Aw
open Go
variable {P : Program} {w : World} {r : Reach} {b : Nat}

theorem cell_int {u : TypeId} {k : IntKind} {v : Value} (hu : P.underlying u = some (.int k)) (h : Cell.okWide P w r b u v) : ∃ n, v = .int k n ∧ k.has n := by
  cases v <;> simp [Cell.okWide, Cell.ok, hu] at h
  obtain ⟨rfl, h⟩ := h
  exact ⟨_, rfl, h⟩

theorem cell_bool {u : TypeId} {v : Value} (hu : P.underlying u = some .bool) (h : Cell.okWide P w r b u v) : ∃ n, v = .bool n := by
  cases v <;> simp [Cell.okWide, Cell.ok, hu] at h
  exact ⟨_, rfl⟩

/-- A struct or an array: its cells, each of its type. -/
theorem open_cells {t : TypeId} {v : Value} (ts : List TypeId) (hk : (match P.underlying t with | some (.struct _) | some (.array _ _) => true | _ => false) = true) (hts : P.cellTypes P.depth t = some ts) (hn : P.cellsOf t = ts.length)
    (h : Value.okWide P w r b t v) : ∃ cs : List Value, v = .agg cs.toArray ∧ cs.length = ts.length ∧ ∀ (i : Nat) (c : Value), cs[i]? = some c → ∃ u, ts[i]? = some u ∧ Cell.okWide P w r b u c := by
  unfold Value.okWide at h
  split at h
  · obtain ⟨cs, rfl, hs, ts', ht', _, hc⟩ := h
    rw [hts] at ht'; cases ht'
    refine ⟨cs.toList, by simp, by simp [hs, hn], fun i c hi => ?_⟩
    have hi' : cs[i]? = some c := by simpa using hi
    obtain ⟨u, hu, hcell⟩ := hc i c hi'
    have hlt : i < ts.length := by
      have := (Array.getElem?_eq_some_iff.1 hi').1
      omega
    rw [Nat.mod_eq_of_lt hlt] at hu
    exact ⟨u, hu, hcell⟩
  · obtain ⟨cs, rfl, hs, ts', ht', _, hc⟩ := h
    rw [hts] at ht'; cases ht'
    refine ⟨cs.toList, by simp, by simp [hs, hn], fun i c hi => ?_⟩
    have hi' : cs[i]? = some c := by simpa using hi
    obtain ⟨u, hu, hcell⟩ := hc i c hi'
    have hlt : i < ts.length := by
      have := (Array.getElem?_eq_some_iff.1 hi').1
      omega
    rw [Nat.mod_eq_of_lt hlt] at hu
    exact ⟨u, hu, hcell⟩
  · rename_i h1 h2
    split at hk
    · rename_i fs hu; exact absurd hu (h1 fs)
    · rename_i n e hu; exact absurd hu (h2 n e)
    · cases hk

/-- Two cells, both int. -/
theorem open_int2 {t u0 u1 : TypeId} {v : Value} (hk : (match P.underlying t with | some (.struct _) | some (.array _ _) => true | _ => false) = true) (hts : P.cellTypes P.depth t = some [u0, u1]) (hn : P.cellsOf t = 2)
    (h0 : P.underlying u0 = some (.int .i64)) (h1 : P.underlying u1 = some (.int .i64)) (h : Value.okWide P w r b t v) : ∃ a c, v = .agg #[.int .i64 a, .int .i64 c] ∧ IntKind.i64.has a ∧ IntKind.i64.has c := by
  obtain ⟨cs, rfl, hl, hc⟩ := open_cells [u0, u1] hk hts hn h
  match cs, hl with
  | [x, y], _ =>
    obtain ⟨u, hu, hx⟩ := hc 0 x rfl
    cases hu
    obtain ⟨u, hu, hy⟩ := hc 1 y rfl
    cases hu
    obtain ⟨a, rfl, ha⟩ := cell_int h0 hx
    obtain ⟨c, rfl, hc1⟩ := cell_int h1 hy
    exact ⟨a, c, rfl, ha, hc1⟩

section
open Go.RowKit
variable {C : Cx} {env : Env}
/-- A law, out of the contract of its function. -/
theorem law_of_ct {f : FuncId} {ct : Ct C.S.El} (h : CtOk C f ct) {args : List (AV C.S.El)} {ps : List Prop} {news : List (AObj C.S.El)} (hct : ct args = some (ps, .v (.bool true), news)) (hps : ∀ p ∈ ps, p) (hlt : args.all (lt1 0) = true) {vals : List Value} {w : World}
    (hg : G2 C.S ⟨fun _ => none, fun b _ => b < w.heap.size⟩ w args vals)
    (hgl : ∀ g, Γ C.S ⟨fun _ => none, fun b _ => b < w.heap.size⟩ w (C.S.glob g) (.pointer (some ⟨g, 0, none⟩))) : Calls C.P f vals.toArray w fun e w' => e = .returned (.bool true) ∧ Below w.heap.size w w' := by
  refine (h args ps _ news hct hps hlt w.heap.size ⟨fun _ => none, fun b _ => b < w.heap.size⟩ w [] vals hg ⟨fun i => by simp [obj_nth, ObjOk], fun i v b hl => by simp [obj_nth, live] at hl, fun i j u v b hl => by simp [obj_nth, live] at hl, fun b o h => h, fun i v h => by simp at h, hgl, Nat.le_refl _⟩).mono ?_
  rintro e w' ⟨v, env', rfl, hΓ, _, hE, hb⟩
  exact ⟨by rw [hΓ.unv], hb⟩

theorem agg_vals {S : Sig} (vs : List Value) : Γ S env w (.agg (vs.map .v)) (.agg vs.toArray) := by
  refine .agg _ _ (by simp) fun j => ?_
  cases h : vs[j]? with
  | none => simp [h]; exact .any _
  | some v => simp [h]; exact .v v
end

theorem has_i64 {n : Int} (h : IntKind.i64.has n) : -9223372036854775808 ≤ n ∧ n ≤ 9223372036854775807 := by
  simpa [IntKind.has, IntKind.min, IntKind.max, IntKind.bits, IntKind.signed] using h
section
open Go.ChangeShapes Go.WideShapes Go.ChangeAt Go.RowKit
variable {H : Type} {enc : TypeId × Value → H}
/-- Arguments read the same in a world that goes on. -/
theorem trodAll_below (hl : laidOutB P = true) {W W' : World} (hb : Below W.heap.size W W') : ∀ (ts : List TypeId) (vs : List Value) (ds : List (DataW H)) (p : List MemPlace), (∀ t ∈ ts, P.readableRec t = true ∧ t < P.types.size) →
    DataW.TrodAll enc P W 0 (fun _ => true) true ts vs ds p → (∀ x ∈ p, x.block < W.heap.size) → DataW.TrodAll enc P W' 0 (fun b => decide (b < W.heap.size)) true ts vs ds p
  | [], vs, ds, p, _, h, _ => by
    cases vs <;> cases ds <;> simp_all [DataW.TrodAll]
  | t :: ts, vs, ds, p, hr, h, hp => by
    obtain ⟨v, vs', d, ds', p0, q, rfl, rfl, rfl, h0, h1⟩ := trodAll_cons h
    exact trodAll_cons_mk (Below.trod hl (hr t (List.mem_cons_self ..)).1 (hr t (List.mem_cons_self ..)).2 h0 hb fun x hx => hp x (by simp [hx]))
      (trodAll_below hl hb ts vs' ds' q (fun t ht => hr t (List.mem_cons_of_mem _ ht)) h1 fun x hx => hp x (by simp [hx]))

theorem post_true {f : Func} {s : ChangeSpec} {apart fresh handsOn : Bool} {W W' : World} {args : Array Value} {ds : List (DataW H)} {before : List MemPlace} {tb : TypeId} (hl : laidOutB P = true)
    (hW : DataW.Whole enc P f.params.toList s.vars apart W args.toList ds [] before) (hv : s.vars = []) (hA : DataW.TrodAll enc P W 0 (fun _ => true) true f.params.toList args.toList ds before)
    (hr : ∀ t ∈ f.params.toList, P.readableRec t = true ∧ t < P.types.size) (hres : f.resultTypes = #[tb]) (htb : P.underlying tb = some .bool)
    (hfn : s.fn H (ds ++ []) = { results := [.lit (.bool true)], args := ds }) (hb : Below W.heap.size W W') :
    s.post enc P f apart fresh handsOn false W args (.bool true) W' := by
  have hlt : ∀ x ∈ before, x.block < W.heap.size := fun x hx => hW.lt x hx
  refine ⟨ds, [], before, [], before, [], hW, ?_, ?_, ?_, hb.frame _, fun h => by cases h⟩
  · rw [hfn, hres]
    exact trodAll_cons_mk (shut_bool htb _) trodAll_mk0
  · rw [hfn]; exact trodAll_below hl hb _ _ _ _ hr hA hlt
  · rw [hfn, hv]; rfl
end
end Go.Aw
