/- Any sequence of at most 100 calls leads to the reports, PDUs and states of the document. Proved for every input, with the table of prefixes as the text of the program lays it (the card ties it). -/
import Derived.Test.YtppceadhdckpmaaGreatDoorCards
import Derived.Test.YtppceadhdckpmaaGreatDoorTie
import Derived.Deep.DeepHandedRow
import Derived.Lib.LaidTab
import Derived.Test.YtppceadhdckpmaaGreatDoorXP5
set_option linter.unusedVariables false
namespace Go.Proofs.YtppceadhdckpmaaGreatDoor.scannerPlays
open Go Go.ChangeShapes Go.WideShapes Go.ChangeAt Go.RowKit Go.Aw Go.Aw.W
theorem own : ownKnob Tryz.prog.godebug = none := by kernel_rfl
theorem gTab : Tryz.prog.globalNamed "wireless/address.prefixes" = some 0 := by kernel_rfl
theorem gTabType : (Tryz.prog.globals[0]?).map (·.type) = some 82 := by kernel_rfl
theorem cellsT : Tryz.prog.cellsOf 82 = 5 := by kernel_rfl
theorem cellsE : Tryz.prog.cellsOf 24 = 1 := by kernel_rfl
theorem table {W : World} (h : laidMetH Tryz.prog Rows.scannerPlaysRow.laid W) : Lib.TabIs Tryz.prog W "wireless/address.prefixes" .u64 [0, 0, 3, 1, 0] :=
  Lib.tabIs_of_head (rest := []) gTab gTabType Tryz.underlying82 Tryz.underlying24 cellsE cellsT h
theorem globs_ok {W : World} (h : laidMetH Tryz.prog Rows.scannerPlaysRow.laid W) : ∀ g, Γ S (env0 W) W (S.glob g) (.pointer (some ⟨g, 0, none⟩)) := by
  intro g
  show Γ S (env0 W) W (globs g) _
  unfold globs
  cases hg : Nat.beq g 0
  · exact Γ.any _
  · have := Nat.eq_of_beq_eq_true hg
    subst this
    have hc : ∀ k, k < 5 → W.cell? ⟨0, k, none⟩ = some (.int .u64 (([0, 0, 3, 1, 0] : List Int).getD k 0)) := fun k hk => (table h).cell gTab k hk
    refine .ra (S := S) 24 prefixes 0 (fun k => .int .u64 (([0, 0, 3, 1, 0] : List Int).getD k 0)) (fun k hk => ?_) (fun i j hi => ?_)
    · have hk' : k < 5 := hk
      exact ⟨hc k hk', cell_lt (hc k hk')⟩
    · cases j with
      | zero =>
        show Γ S (env0 W) W (.v (.int .u64 (List.getD (α := Int) prefixes i (0 : Int)))) (.int .u64 (([0, 0, 3, 1, 0] : List Int).getD (i * 1 + 0) 0))
        rw [Nat.mul_one, Nat.add_zero]
        exact Γ.v _
      | succ j => exact Γ.any _

/-- The walk. -/
theorem walk {v0 : Value} {v1 : Value} {v2 : Value} (x0 : ScanParams) (x1 : Law22At) (x2 : List Law22Op) (b0 : ScanParams.has x0) (b1 : Law22At.has x1) (b2 : (∀ y ∈ x2, Law22Op.has y) ∧ x2.length * 168 ≤ 140737488351232) (w : World) (hG : ∀ g, Γ S (env0 w) w (S.glob g) (.pointer (some ⟨g, 0, none⟩))) (g0 : Γ S (env0 w) w (ScanParams.av x0) v0) (g1 : Γ S (env0 w) w (Law22At.av x1) v1) (g2 : Γ S (env0 w) w (.sl 50 (x2 : List (El 50)) false) v2) : Calls Tryz.prog 3 #[v0, v1, v2] w fun e w' => e = .returned (.bool true) ∧ Below w.heap.size w w' :=
  law_of scannerPlays.ok (args := [ScanParams.av x0, Law22At.av x1, .sl 50 (x2 : List (El 50)) false]) (vals := [v0, v1, v2]) (x := (x0, x1, x2)) (by kernel_rfl) (fun p hp => by simp only [List.mem_singleton] at hp; subst hp; exact scannerPlays_pre x0 x1 x2 b0 b1 b2) (congrArg (fun b => AV.v (Value.bool b)) (scannerPlays_true x0 x1 x2 b0 b1 b2)) (by kernel_rfl) (.cons g0 (.cons g1 (.cons g2 .nil))) hG

noncomputable def laidWorld (os : Os) : World :=
  { World.holding Tryz.prog os ⟨#[], #[], []⟩ with heap := (World.holding Tryz.prog os ⟨#[], #[], []⟩).heap.modify 0 fun
      | .cells _ t frozen => .cells #[.int .u64 0, .int .u64 0, .int .u64 3, .int .u64 1, .int .u64 0] t frozen
      | o => o }
theorem laid_met (os : Os) : laidMet Tryz.prog Rows.scannerPlaysRow.laid ((laidWorld os).forCall (fun _ _ => 0) ⟨#[], #[.agg #[.int .i64 0, .int .i64 0, .bool false, .int .i64 0, .slice none 0 0, .slice none 0 0, .int .i64 0, .int .u64 0, .bool false], .agg #[.int .u64 0, .int .i64 0, .int .i64 0], .slice none 0 0], []⟩).memory :=
  laidMet_of_run' 8 (by kernel_rfl) (by kernel_rfl)
theorem reads (os : Os) {H : Type} (enc : TypeId × Value → H) : ∃ places, DataW.whole enc Tryz.prog ((laidWorld os).forCall (fun _ _ => 0) ⟨#[], #[.agg #[.int .i64 0, .int .i64 0, .bool false, .int .i64 0, .slice none 0 0, .slice none 0 0, .int .i64 0, .int .u64 0, .bool false], .agg #[.int .u64 0, .int .i64 0, .int .i64 0], .slice none 0 0], []⟩).memory Tryz.f3.params.toList Rows.scannerPlaysSpec.vars false (#[.agg #[.int .i64 0, .int .i64 0, .bool false, .int .i64 0, .slice none 0 0, .slice none 0 0, .int .i64 0, .int .u64 0, .bool false], .agg #[.int .u64 0, .int .i64 0, .int .i64 0], .slice none 0 0] : Array Value).toList 8 = some ([.agg [.lit (.int .i64 0), .lit (.int .i64 0), .lit (.bool false), .lit (.int .i64 0), .nil, .nil, .agg [.lit (.int .i64 0), .lit (.int .u64 0)], .lit (.bool false)], .agg [.lit (.int .u64 0), .lit (.int .i64 0), .lit (.int .i64 0)], .nil], [], places) :=
  ⟨[], by kernel_rfl⟩

set_option maxRecDepth 100000 in
theorem lifted (os : Os) (started : os.Started) (H : Type) (enc : TypeId × Value → H) (F : Stop.Interp) :
    ReturnsInHanded {} Tryz.checked os 3 .any ((OpenSpec.ofChange Rows.scannerPlaysSpec).preRow enc Tryz.prog Tryz.f3 Rows.scannerPlaysRow.domain false Rows.scannerPlaysRow.laid) (((OpenSpec.ofChange Rows.scannerPlaysSpec).at F).post enc Tryz.prog Tryz.f3 false true false false) := by
  obtain ⟨places, hx⟩ := reads os enc
  refine returnsInHanded_of_row (C := Tryz.checked) (s := OpenSpec.ofChange Rows.scannerPlaysSpec) own started (by kernel_rfl) Tryz.func3
    (witness_row_at (enc := enc) (C := Tryz.checked) false (laidWorld os) #[.agg #[.int .i64 0, .int .i64 0, .bool false, .int .i64 0, .slice none 0 0, .slice none 0 0, .int .i64 0, .int .u64 0, .bool false], .agg #[.int .u64 0, .int .i64 0, .int .i64 0], .slice none 0 0] rfl (by kernel_rfl) (by kernel_rfl) (by kernel_rfl)
      (OpenSpec.preRow_of_cond 8 hx (by kernel_rfl) (fun k hk => by cases hk) (by kernel_rfl) (laid_met os))) ?_
  intro W base args ds gs before hval0 hW hcnd _ hsz hL _ _
  have hval : ∀ (j : Nat) t v, Tryz.f3.params[j]? = some t → args[j]? = some v → Value.okWide Tryz.prog W .any base t v := hval0
  have hW' := hW
  obtain ⟨p, q, hA0, hV, rfl, hfz, hnd⟩ := hW
  obtain ⟨rfl, rfl⟩ := trodVars_none hV
  rw [List.append_nil] at hW'
  have hA : DataW.TrodAll enc Tryz.prog W 0 (fun _ => true) true Tryz.f3.params.toList args.toList ds p := hA0
  have hend : ∀ W', Below W.heap.size W W' → Rows.scannerPlaysSpec.fn H (ds ++ []) = { results := [.lit (.bool true)], args := ds } → Rows.scannerPlaysSpec.post enc Tryz.prog Tryz.f3 false true false false W args (.bool true) W' := fun W' hb hfn =>
    post_true (tb := 4) (by kernel_rfl) hW' rfl hA (by decide +kernel) rfl Tryz.underlying4 hfn hb
  rw [Tryz.params3] at hA hval
  replace hsz : (DataW.weightsEach Tryz.prog (Tryz.f3.params.toList ++ Rows.scannerPlaysSpec.plain.varTypes Tryz.prog) (ds ++ [])).all (· ≤ reachBytes) = true := hsz
  rw [Tryz.params3] at hsz
  obtain ⟨v0, vs0, d0, ds0, p0, q0, hargs, rfl, rfl, h0, r0⟩ := trodAll_cons hA
  obtain ⟨v1, vs1, d1, ds1, p1, q1, rfl, rfl, rfl, h1, r1⟩ := trodAll_cons r0
  obtain ⟨v2, vs2, d2, ds2, p2, q2, rfl, rfl, rfl, h2, r2⟩ := trodAll_cons r1
  obtain ⟨rfl, rfl, rfl⟩ := trodAll_nil r2
  obtain rfl : args = #[v0, v1, v2] := by cases args; simp_all
  obtain ⟨x0, g0, b0⟩ := open_agg (S := S) (by kernel_rfl) (ScanParams.opn) (hval 0 28 v0 rfl rfl) h0 (weights_arg hsz (j := 0) rfl rfl)
  obtain ⟨x1, g1, b1⟩ := open_agg (S := S) (by kernel_rfl) (Law22At.opn) (hval 1 30 v1 rfl rfl) h1 (weights_arg hsz (j := 1) rfl rfl)
  obtain ⟨x2, g2, b2⟩ := open_flat (S := S) (by kernel_rfl) (opn_slice (S := S) (e := 50) Tryz.underlying31 (by kernel_rfl) (sigOk.pos _) (fun x => sigOk.len _ x) (nb := 168) (by kernel_rfl) (Law22Op.opn)) (hval 2 31 v2 rfl rfl) h2 (weights_arg hsz (j := 2) rfl rfl)
  refine (walk x0 x1 x2 b0 b1 b2 W (globs_ok hL) g0 g1 g2).mono fun e W' ⟨he, hb⟩ => ?_
  subst he
  exact ⟨_, rfl, hend W' hb rfl⟩

theorem said : Rows.ScannerPlaysSaid :=
  OpenClaim.holds_of_cond 3 Tryz.f3 rfl rfl rfl rfl rfl rfl rfl ⟨rfl, rfl, rfl, rfl, rfl⟩ rfl rfl rfl rfl rfl (by kernel_rfl) Tryz.func3 (by kernel_rfl)
    (of_decide_eq_true (by kernel_rfl)) (by unfold Func.isWrapper; first | (rw [if_pos (by decide +kernel)]; kernel_rfl) | (rw [if_neg (by decide +kernel)]; exact ⟨rfl, rfl⟩))
    (fun os started H enc _ F => by rw [OpenClaim.pre_eq_preRow]; exact lifted os started H enc F)

theorem plain (f : FuncId) (fn : Func) (hf : Tryz.pinned.checked.prog.funcNamed "wireless/wirelesslaw22.ScannerPlays" = some f) (hfn : Tryz.pinned.checked.prog.funcs[f]? = some fn) :
    false = Tryz.pinned.checked.prog.looks [] ∧ ∀ (j : Nat) t, fn.params[j]? = some t → Tryz.pinned.checked.prog.wantsStandIn t = false := by
  obtain rfl : f = 3 := Option.some.inj ((show Tryz.prog.funcNamed "wireless/wirelesslaw22.ScannerPlays" = some 3 by kernel_rfl).symm.trans hf) |>.symm
  obtain rfl : fn = Tryz.f3 := (Option.some.inj (Tryz.func3.symm.trans hfn)).symm
  refine ⟨by kernel_rfl, fun j t ht => ?_⟩
  rw [Tryz.params3] at ht
  have hm : t = 28 ∨ t = 30 ∨ t = 31 := by simpa using Array.mem_of_getElem? ht
  rcases hm with rfl | rfl | rfl
  · exact (show Tryz.prog.wantsStandIn 28 = false by kernel_rfl)
  · exact (show Tryz.prog.wantsStandIn 30 = false by kernel_rfl)
  · exact (show Tryz.prog.wantsStandIn 31 = false by kernel_rfl)

/-- The statement: the card. -/
theorem proved : Rows.ScannerPlaysCardSaid :=
  Claim7.holds_tied_plain_at .later [] _ _ _ _ said (fun _ h => by cases h) (by kernel_rfl) (fun _ h => by cases h) scannerPlays_row_tie rfl ⟨rfl, rfl⟩ (by kernel_rfl) rfl plain (by kernel_rfl)
#print axioms proved
end Go.Proofs.YtppceadhdckpmaaGreatDoor.scannerPlays
