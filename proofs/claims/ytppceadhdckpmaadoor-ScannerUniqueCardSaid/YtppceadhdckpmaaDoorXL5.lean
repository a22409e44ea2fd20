/- No name is reported twice. Proved for every input, with the table of prefixes as the text of the program lays it (the card ties it). -/
import Derived.Test.YtppceadhdckpmaaDoorCards
import Derived.Test.YtppceadhdckpmaaDoorTie
import Derived.Deep.DeepHandedRow
import Derived.Lib.LaidTab
import Derived.Test.YtppceadhdckpmaaDoorXP7
set_option linter.unusedVariables false
namespace Go.Proofs.YtppceadhdckpmaaDoor.scannerUnique
open Go Go.ChangeShapes Go.WideShapes Go.ChangeAt Go.RowKit Go.Aw Go.Aw.W
theorem own : ownKnob Tryd.prog.godebug = none := by kernel_rfl
theorem gTab : Tryd.prog.globalNamed "wireless/address.prefixes" = some 0 := by kernel_rfl
theorem gTabType : (Tryd.prog.globals[0]?).map (·.type) = some 141 := by kernel_rfl
theorem cellsT : Tryd.prog.cellsOf 141 = 5 := by kernel_rfl
theorem cellsE : Tryd.prog.cellsOf 22 = 1 := by kernel_rfl
theorem table {W : World} (h : laidMetH Tryd.prog Rows.scannerUniqueRow.laid W) : Lib.TabIs Tryd.prog W "wireless/address.prefixes" .u64 [0, 0, 3, 1, 0] :=
  Lib.tabIs_of_head (rest := []) gTab gTabType Tryd.underlying141 Tryd.underlying22 cellsE cellsT h
theorem globs_ok {W : World} (h : laidMetH Tryd.prog Rows.scannerUniqueRow.laid W) : ∀ g, Γ S (env0 W) W (S.glob g) (.pointer (some ⟨g, 0, none⟩)) := by
  intro g
  show Γ S (env0 W) W (globs g) _
  unfold globs
  cases hg : Nat.beq g 0
  · exact Γ.any _
  · have := Nat.eq_of_beq_eq_true hg
    subst this
    have hc : ∀ k, k < 5 → W.cell? ⟨0, k, none⟩ = some (.int .u64 (([0, 0, 3, 1, 0] : List Int).getD k 0)) := fun k hk => (table h).cell gTab k hk
    refine .ra (S := S) 22 prefixes 0 (fun k => .int .u64 (([0, 0, 3, 1, 0] : List Int).getD k 0)) (fun k hk => ?_) (fun i j hi => ?_)
    · have hk' : k < 5 := hk
      exact ⟨hc k hk', cell_lt (hc k hk')⟩
    · cases j with
      | zero =>
        show Γ S (env0 W) W (.v (.int .u64 (List.getD (α := Int) prefixes i (0 : Int)))) (.int .u64 (([0, 0, 3, 1, 0] : List Int).getD (i * 1 + 0) 0))
        rw [Nat.mul_one, Nat.add_zero]
        exact Γ.v _
      | succ j => exact Γ.any _

/-- The walk. -/
theorem walk {v0 : Value} {v1 : Value} (x0 : ScanParams) (x1 : List Law22Op) (b0 : ScanParams.has x0) (b1 : (∀ y ∈ x1, Law22Op.has y) ∧ x1.length * 168 ≤ 140737488351232) (w : World) (hG : ∀ g, Γ S (env0 w) w (S.glob g) (.pointer (some ⟨g, 0, none⟩))) (g0 : Γ S (env0 w) w (ScanParams.av x0) v0) (g1 : Γ S (env0 w) w (.sl 86 (x1 : List (El 86)) false) v1) : Calls Tryd.prog 9 #[v0, v1] w fun e w' => e = .returned (.bool true) ∧ Below w.heap.size w w' :=
  law_of scannerUnique.ok (args := [ScanParams.av x0, .sl 86 (x1 : List (El 86)) false]) (vals := [v0, v1]) (x := (x0, x1)) (by kernel_rfl) (fun p hp => by simp only [List.mem_singleton] at hp; subst hp; exact scannerUnique_pre x0 x1 b0 b1) (congrArg (fun b => AV.v (Value.bool b)) (scannerUnique_true x0 x1 b0 b1)) (by kernel_rfl) (.cons g0 (.cons g1 .nil)) hG

noncomputable def laidWorld (os : Os) : World :=
  { World.holding Tryd.prog os ⟨#[], #[], []⟩ with heap := (World.holding Tryd.prog os ⟨#[], #[], []⟩).heap.modify 0 fun
      | .cells _ t frozen => .cells #[.int .u64 0, .int .u64 0, .int .u64 3, .int .u64 1, .int .u64 0] t frozen
      | o => o }
theorem laid_met (os : Os) : laidMet Tryd.prog Rows.scannerUniqueRow.laid ((laidWorld os).forCall (fun _ _ => 0) ⟨#[], #[.agg #[.int .i64 0, .int .i64 0, .bool false, .int .i64 0, .slice none 0 0, .slice none 0 0, .int .i64 0, .int .u64 0, .bool false], .slice none 0 0], []⟩).memory :=
  laidMet_of_run' 8 (by kernel_rfl) (by kernel_rfl)
theorem reads (os : Os) {H : Type} (enc : TypeId × Value → H) : ∃ places, DataW.whole enc Tryd.prog ((laidWorld os).forCall (fun _ _ => 0) ⟨#[], #[.agg #[.int .i64 0, .int .i64 0, .bool false, .int .i64 0, .slice none 0 0, .slice none 0 0, .int .i64 0, .int .u64 0, .bool false], .slice none 0 0], []⟩).memory Tryd.f9.params.toList Rows.scannerUniqueSpec.vars false (#[.agg #[.int .i64 0, .int .i64 0, .bool false, .int .i64 0, .slice none 0 0, .slice none 0 0, .int .i64 0, .int .u64 0, .bool false], .slice none 0 0] : Array Value).toList 8 = some ([.agg [.lit (.int .i64 0), .lit (.int .i64 0), .lit (.bool false), .lit (.int .i64 0), .nil, .nil, .agg [.lit (.int .i64 0), .lit (.int .u64 0)], .lit (.bool false)], .nil], [], places) :=
  ⟨[], by kernel_rfl⟩

set_option maxRecDepth 100000 in
theorem lifted (os : Os) (started : os.Started) (H : Type) (enc : TypeId × Value → H) (F : Stop.Interp) :
    ReturnsInHanded {} Tryd.checked os 9 .any ((OpenSpec.ofChange Rows.scannerUniqueSpec).preRow enc Tryd.prog Tryd.f9 Rows.scannerUniqueRow.domain false Rows.scannerUniqueRow.laid) (((OpenSpec.ofChange Rows.scannerUniqueSpec).at F).post enc Tryd.prog Tryd.f9 false true false false) := by
  obtain ⟨places, hx⟩ := reads os enc
  refine returnsInHanded_of_row (C := Tryd.checked) (s := OpenSpec.ofChange Rows.scannerUniqueSpec) own started (by kernel_rfl) Tryd.func9
    (witness_row_at (enc := enc) (C := Tryd.checked) false (laidWorld os) #[.agg #[.int .i64 0, .int .i64 0, .bool false, .int .i64 0, .slice none 0 0, .slice none 0 0, .int .i64 0, .int .u64 0, .bool false], .slice none 0 0] rfl (by kernel_rfl) (by kernel_rfl) (by kernel_rfl)
      (OpenSpec.preRow_of_cond 8 hx (by kernel_rfl) (fun k hk => by cases hk) (by kernel_rfl) (laid_met os))) ?_
  intro W base args ds gs before hval0 hW hcnd _ hsz hL _ _
  have hval : ∀ (j : Nat) t v, Tryd.f9.params[j]? = some t → args[j]? = some v → Value.okWide Tryd.prog W .any base t v := hval0
  have hW' := hW
  obtain ⟨p, q, hA0, hV, rfl, hfz, hnd⟩ := hW
  obtain ⟨rfl, rfl⟩ := trodVars_none hV
  rw [List.append_nil] at hW'
  have hA : DataW.TrodAll enc Tryd.prog W 0 (fun _ => true) true Tryd.f9.params.toList args.toList ds p := hA0
  have hend : ∀ W', Below W.heap.size W W' → Rows.scannerUniqueSpec.fn H (ds ++ []) = { results := [.lit (.bool true)], args := ds } → Rows.scannerUniqueSpec.post enc Tryd.prog Tryd.f9 false true false false W args (.bool true) W' := fun W' hb hfn =>
    post_true (tb := 4) (by kernel_rfl) hW' rfl hA (by decide +kernel) rfl Tryd.underlying4 hfn hb
  rw [Tryd.params9] at hA hval
  replace hsz : (DataW.weightsEach Tryd.prog (Tryd.f9.params.toList ++ Rows.scannerUniqueSpec.plain.varTypes Tryd.prog) (ds ++ [])).all (· ≤ reachBytes) = true := hsz
  rw [Tryd.params9] at hsz
  obtain ⟨v0, vs0, d0, ds0, p0, q0, hargs, rfl, rfl, h0, r0⟩ := trodAll_cons hA
  obtain ⟨v1, vs1, d1, ds1, p1, q1, rfl, rfl, rfl, h1, r1⟩ := trodAll_cons r0
  obtain ⟨rfl, rfl, rfl⟩ := trodAll_nil r1
  obtain rfl : args = #[v0, v1] := by cases args; simp_all
  obtain ⟨x0, g0, b0⟩ := open_agg (S := S) (by kernel_rfl) (ScanParams.opn) (hval 0 72 v0 rfl rfl) h0 (weights_arg hsz (j := 0) rfl rfl)
  obtain ⟨x1, g1, b1⟩ := open_flat (S := S) (by kernel_rfl) (opn_slice (S := S) (e := 86) Tryd.underlying85 (by kernel_rfl) (sigOk.pos _) (fun x => sigOk.len _ x) (nb := 168) (by kernel_rfl) (Law22Op.opn)) (hval 1 85 v1 rfl rfl) h1 (weights_arg hsz (j := 1) rfl rfl)
  refine (walk x0 x1 b0 b1 W (globs_ok hL) g0 g1).mono fun e W' ⟨he, hb⟩ => ?_
  subst he
  exact ⟨_, rfl, hend W' hb rfl⟩

theorem said : Rows.ScannerUniqueSaid :=
  OpenClaim.holds_of_cond 9 Tryd.f9 rfl rfl rfl rfl rfl rfl rfl ⟨rfl, rfl, rfl, rfl, rfl⟩ rfl rfl rfl rfl rfl (by kernel_rfl) Tryd.func9 (by kernel_rfl)
    (of_decide_eq_true (by kernel_rfl)) (by unfold Func.isWrapper; first | (rw [if_pos (by decide +kernel)]; kernel_rfl) | (rw [if_neg (by decide +kernel)]; exact ⟨rfl, rfl⟩))
    (fun os started H enc _ F => by rw [OpenClaim.pre_eq_preRow]; exact lifted os started H enc F)

theorem plain (f : FuncId) (fn : Func) (hf : Tryd.pinned.checked.prog.funcNamed "wireless/wirelesslaw22.ScannerUnique" = some f) (hfn : Tryd.pinned.checked.prog.funcs[f]? = some fn) :
    false = Tryd.pinned.checked.prog.looks [] ∧ ∀ (j : Nat) t, fn.params[j]? = some t → Tryd.pinned.checked.prog.wantsStandIn t = false := by
  obtain rfl : f = 9 := Option.some.inj ((show Tryd.prog.funcNamed "wireless/wirelesslaw22.ScannerUnique" = some 9 by kernel_rfl).symm.trans hf) |>.symm
  obtain rfl : fn = Tryd.f9 := (Option.some.inj (Tryd.func9.symm.trans hfn)).symm
  refine ⟨by kernel_rfl, fun j t ht => ?_⟩
  rw [Tryd.params9] at ht
  have hm : t = 72 ∨ t = 85 := by simpa using Array.mem_of_getElem? ht
  rcases hm with rfl | rfl
  · exact (show Tryd.prog.wantsStandIn 72 = false by kernel_rfl)
  · exact (show Tryd.prog.wantsStandIn 85 = false by kernel_rfl)

/-- The statement: the card. -/
theorem proved : Rows.ScannerUniqueCardSaid :=
  Claim7.holds_tied_plain_at .later [] _ _ _ _ said (fun _ h => by cases h) (by kernel_rfl) (fun _ h => by cases h) scannerUnique_row_tie rfl ⟨rfl, rfl⟩ (by kernel_rfl) rfl plain (by kernel_rfl)
#print axioms proved
end Go.Proofs.YtppceadhdckpmaaDoor.scannerUnique
