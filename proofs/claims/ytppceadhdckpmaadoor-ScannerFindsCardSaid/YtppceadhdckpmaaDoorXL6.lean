/- A scanner that listens all the time reports what an advertiser sends. Proved for every input, with the table of prefixes as the text of the program lays it (the card ties it). -/
import Derived.Test.YtppceadhdckpmaaDoorCards
import Derived.Test.YtppceadhdckpmaaDoorTie
import Derived.Deep.DeepHandedRow
import Derived.Lib.LaidTab
import Derived.Test.YtppceadhdckpmaaDoorXPA
set_option linter.unusedVariables false
namespace Go.Proofs.YtppceadhdckpmaaDoor.scannerFinds
open Go Go.ChangeShapes Go.WideShapes Go.ChangeAt Go.RowKit Go.Aw Go.Aw.W
theorem own : ownKnob Tryd.prog.godebug = none := by kernel_rfl
theorem gTab : Tryd.prog.globalNamed "wireless/address.prefixes" = some 0 := by kernel_rfl
theorem gTabType : (Tryd.prog.globals[0]?).map (·.type) = some 141 := by kernel_rfl
theorem cellsT : Tryd.prog.cellsOf 141 = 5 := by kernel_rfl
theorem cellsE : Tryd.prog.cellsOf 22 = 1 := by kernel_rfl
theorem table {W : World} (h : laidMetH Tryd.prog Rows.scannerFindsRow.laid W) : Lib.TabIs Tryd.prog W "wireless/address.prefixes" .u64 [0, 0, 3, 1, 0] :=
  Lib.tabIs_of_head (rest := []) gTab gTabType Tryd.underlying141 Tryd.underlying22 cellsE cellsT h
theorem globs_ok {W : World} (h : laidMetH Tryd.prog Rows.scannerFindsRow.laid W) : ∀ g, Γ S (env0 W) W (S.glob g) (.pointer (some ⟨g, 0, none⟩)) := by
  intro g
  show Γ S (env0 W) W (globs g) _
  unfold globs
  cases hg : Nat.beq g 0
  · exact Γ.any _
  · have := Nat.eq_of_beq_eq_true hg
    subst this
    have hc : ∀ k, k < 5 → W.cell? ⟨0, k, none⟩ = some (.int .u64 (([0, 0, 3, 1, 0] : List Int).getD k 0)) := fun k hk => (table h).cell gTab k hk
    refine .ra (S := S) 22 prefixes 0 (fun k => .int .u64 (([0, 0, 3, 1, 0] : List Int).getD k 0)) (fun k hk => ?_) (fun i j hi => ?_)
    · have hk' : k < 5 := hk
      exact ⟨hc k hk', cell_lt (hc k hk')⟩
    · cases j with
      | zero =>
        show Γ S (env0 W) W (.v (.int .u64 (List.getD (α := Int) prefixes i (0 : Int)))) (.int .u64 (([0, 0, 3, 1, 0] : List Int).getD (i * 1 + 0) 0))
        rw [Nat.mul_one, Nat.add_zero]
        exact Γ.v _
      | succ j => exact Γ.any _

/-- The walk. -/
theorem walk {v0 : Value} {v1 : Value} {v2 : Value} (x0 : ScanParams) (x1 : AdvParams) (x2 : Int) (b0 : ScanParams.has x0) (b1 : AdvParams.has x1) (b2 : IntKind.has .i64 x2) (w : World) (hG : ∀ g, Γ S (env0 w) w (S.glob g) (.pointer (some ⟨g, 0, none⟩))) (g0 : Γ S (env0 w) w (ScanParams.av x0) v0) (g1 : Γ S (env0 w) w (AdvParams.av x1) v1) (g2 : Γ S (env0 w) w (.v (.int .i64 x2)) v2) : Calls Tryd.prog 13 #[v0, v1, v2] w fun e w' => e = .returned (.bool true) ∧ Below w.heap.size w w' :=
  law_of scannerFinds.ok (args := [ScanParams.av x0, AdvParams.av x1, .v (.int .i64 x2)]) (vals := [v0, v1, v2]) (x := (x0, x1, x2)) (by kernel_rfl) (fun p hp => by simp only [List.mem_singleton] at hp; subst hp; exact scannerFinds_pre x0 x1 x2 b0 b1 b2) (congrArg (fun b => AV.v (Value.bool b)) (scannerFinds_true x0 x1 x2 b0 b1 b2)) (by kernel_rfl) (.cons g0 (.cons g1 (.cons g2 .nil))) hG

noncomputable def laidWorld (os : Os) : World :=
  { World.holding Tryd.prog os ⟨#[], #[], []⟩ with heap := (World.holding Tryd.prog os ⟨#[], #[], []⟩).heap.modify 0 fun
      | .cells _ t frozen => .cells #[.int .u64 0, .int .u64 0, .int .u64 3, .int .u64 1, .int .u64 0] t frozen
      | o => o }
theorem laid_met (os : Os) : laidMet Tryd.prog Rows.scannerFindsRow.laid ((laidWorld os).forCall (fun _ _ => 0) ⟨#[], #[.agg #[.int .i64 0, .int .i64 0, .bool false, .int .i64 0, .slice none 0 0, .slice none 0 0, .int .i64 0, .int .u64 0, .bool false], .agg #[.int .i64 0, .int .i64 0, .int .i64 0, .int .u64 0, .int .i64 0, .int .u64 0, .slice none 0 0, .slice none 0 0, .int .i64 0, .slice none 0 0, .slice none 0 0, .int .u64 0], .int .i64 0], []⟩).memory :=
  laidMet_of_run' 8 (by kernel_rfl) (by kernel_rfl)
theorem reads (os : Os) {H : Type} (enc : TypeId × Value → H) : ∃ places, DataW.whole enc Tryd.prog ((laidWorld os).forCall (fun _ _ => 0) ⟨#[], #[.agg #[.int .i64 0, .int .i64 0, .bool false, .int .i64 0, .slice none 0 0, .slice none 0 0, .int .i64 0, .int .u64 0, .bool false], .agg #[.int .i64 0, .int .i64 0, .int .i64 0, .int .u64 0, .int .i64 0, .int .u64 0, .slice none 0 0, .slice none 0 0, .int .i64 0, .slice none 0 0, .slice none 0 0, .int .u64 0], .int .i64 0], []⟩).memory Tryd.f13.params.toList Rows.scannerFindsSpec.vars false (#[.agg #[.int .i64 0, .int .i64 0, .bool false, .int .i64 0, .slice none 0 0, .slice none 0 0, .int .i64 0, .int .u64 0, .bool false], .agg #[.int .i64 0, .int .i64 0, .int .i64 0, .int .u64 0, .int .i64 0, .int .u64 0, .slice none 0 0, .slice none 0 0, .int .i64 0, .slice none 0 0, .slice none 0 0, .int .u64 0], .int .i64 0] : Array Value).toList 8 = some ([.agg [.lit (.int .i64 0), .lit (.int .i64 0), .lit (.bool false), .lit (.int .i64 0), .nil, .nil, .agg [.lit (.int .i64 0), .lit (.int .u64 0)], .lit (.bool false)], .agg [.lit (.int .i64 0), .lit (.int .i64 0), .agg [.lit (.int .i64 0), .lit (.int .u64 0)], .agg [.lit (.int .i64 0), .lit (.int .u64 0)], .nil, .nil, .lit (.int .i64 0), .nil, .nil, .lit (.int .u64 0)], .lit (.int .i64 0)], [], places) :=
  ⟨[], by kernel_rfl⟩

set_option maxRecDepth 100000 in
theorem lifted (os : Os) (started : os.Started) (H : Type) (enc : TypeId × Value → H) (F : Stop.Interp) :
    ReturnsInHanded {} Tryd.checked os 13 .any ((OpenSpec.ofChange Rows.scannerFindsSpec).preRow enc Tryd.prog Tryd.f13 Rows.scannerFindsRow.domain false Rows.scannerFindsRow.laid) (((OpenSpec.ofChange Rows.scannerFindsSpec).at F).post enc Tryd.prog Tryd.f13 false true false false) := by
  obtain ⟨places, hx⟩ := reads os enc
  refine returnsInHanded_of_row (C := Tryd.checked) (s := OpenSpec.ofChange Rows.scannerFindsSpec) own started (by kernel_rfl) Tryd.func13
    (witness_row_at (enc := enc) (C := Tryd.checked) false (laidWorld os) #[.agg #[.int .i64 0, .int .i64 0, .bool false, .int .i64 0, .slice none 0 0, .slice none 0 0, .int .i64 0, .int .u64 0, .bool false], .agg #[.int .i64 0, .int .i64 0, .int .i64 0, .int .u64 0, .int .i64 0, .int .u64 0, .slice none 0 0, .slice none 0 0, .int .i64 0, .slice none 0 0, .slice none 0 0, .int .u64 0], .int .i64 0] rfl (by kernel_rfl) (by kernel_rfl) (by kernel_rfl)
      (OpenSpec.preRow_of_cond 8 hx (by kernel_rfl) (fun k hk => by cases hk) (by kernel_rfl) (laid_met os))) ?_
  intro W base args ds gs before hval0 hW hcnd _ hsz hL _ _
  have hval : ∀ (j : Nat) t v, Tryd.f13.params[j]? = some t → args[j]? = some v → Value.okWide Tryd.prog W .any base t v := hval0
  have hW' := hW
  obtain ⟨p, q, hA0, hV, rfl, hfz, hnd⟩ := hW
  obtain ⟨rfl, rfl⟩ := trodVars_none hV
  rw [List.append_nil] at hW'
  have hA : DataW.TrodAll enc Tryd.prog W 0 (fun _ => true) true Tryd.f13.params.toList args.toList ds p := hA0
  have hend : ∀ W', Below W.heap.size W W' → Rows.scannerFindsSpec.fn H (ds ++ []) = { results := [.lit (.bool true)], args := ds } → Rows.scannerFindsSpec.post enc Tryd.prog Tryd.f13 false true false false W args (.bool true) W' := fun W' hb hfn =>
    post_true (tb := 4) (by kernel_rfl) hW' rfl hA (by decide +kernel) rfl Tryd.underlying4 hfn hb
  rw [Tryd.params13] at hA hval
  replace hsz : (DataW.weightsEach Tryd.prog (Tryd.f13.params.toList ++ Rows.scannerFindsSpec.plain.varTypes Tryd.prog) (ds ++ [])).all (· ≤ reachBytes) = true := hsz
  rw [Tryd.params13] at hsz
  obtain ⟨v0, vs0, d0, ds0, p0, q0, hargs, rfl, rfl, h0, r0⟩ := trodAll_cons hA
  obtain ⟨v1, vs1, d1, ds1, p1, q1, rfl, rfl, rfl, h1, r1⟩ := trodAll_cons r0
  obtain ⟨v2, vs2, d2, ds2, p2, q2, rfl, rfl, rfl, h2, r2⟩ := trodAll_cons r1
  obtain ⟨rfl, rfl, rfl⟩ := trodAll_nil r2
  obtain rfl : args = #[v0, v1, v2] := by cases args; simp_all
  obtain ⟨x0, g0, b0⟩ := open_agg (S := S) (by kernel_rfl) (ScanParams.opn) (hval 0 72 v0 rfl rfl) h0 (weights_arg hsz (j := 0) rfl rfl)
  obtain ⟨x1, g1, b1⟩ := open_agg (S := S) (by kernel_rfl) (AdvParams.opn) (hval 1 29 v1 rfl rfl) h1 (weights_arg hsz (j := 1) rfl rfl)
  obtain ⟨x2, g2, b2⟩ := open_flat (S := S) (by kernel_rfl) (opn_int Tryd.underlying3) (hval 2 3 v2 rfl rfl) h2 (weights_arg hsz (j := 2) rfl rfl)
  refine (walk x0 x1 x2 b0 b1 b2 W (globs_ok hL) g0 g1 g2).mono fun e W' ⟨he, hb⟩ => ?_
  subst he
  exact ⟨_, rfl, hend W' hb rfl⟩

theorem said : Rows.ScannerFindsSaid :=
  OpenClaim.holds_of_cond 13 Tryd.f13 rfl rfl rfl rfl rfl rfl rfl ⟨rfl, rfl, rfl, rfl, rfl⟩ rfl rfl rfl rfl rfl (by kernel_rfl) Tryd.func13 (by kernel_rfl)
    (of_decide_eq_true (by kernel_rfl)) (by unfold Func.isWrapper; first | (rw [if_pos (by decide +kernel)]; kernel_rfl) | (rw [if_neg (by decide +kernel)]; exact ⟨rfl, rfl⟩))
    (fun os started H enc _ F => by rw [OpenClaim.pre_eq_preRow]; exact lifted os started H enc F)

theorem plain (f : FuncId) (fn : Func) (hf : Tryd.pinned.checked.prog.funcNamed "wireless/wirelesslaw22.ScannerFinds" = some f) (hfn : Tryd.pinned.checked.prog.funcs[f]? = some fn) :
    false = Tryd.pinned.checked.prog.looks [] ∧ ∀ (j : Nat) t, fn.params[j]? = some t → Tryd.pinned.checked.prog.wantsStandIn t = false := by
  obtain rfl : f = 13 := Option.some.inj ((show Tryd.prog.funcNamed "wireless/wirelesslaw22.ScannerFinds" = some 13 by kernel_rfl).symm.trans hf) |>.symm
  obtain rfl : fn = Tryd.f13 := (Option.some.inj (Tryd.func13.symm.trans hfn)).symm
  refine ⟨by kernel_rfl, fun j t ht => ?_⟩
  rw [Tryd.params13] at ht
  have hm : t = 72 ∨ t = 29 ∨ t = 3 := by simpa using Array.mem_of_getElem? ht
  rcases hm with rfl | rfl | rfl
  · exact (show Tryd.prog.wantsStandIn 72 = false by kernel_rfl)
  · exact (show Tryd.prog.wantsStandIn 29 = false by kernel_rfl)
  · exact (show Tryd.prog.wantsStandIn 3 = false by kernel_rfl)

/-- The statement: the card. -/
theorem proved : Rows.ScannerFindsCardSaid :=
  Claim7.holds_tied_plain_at .later [] _ _ _ _ said (fun _ h => by cases h) (by kernel_rfl) (fun _ h => by cases h) scannerFinds_row_tie rfl ⟨rfl, rfl⟩ (by kernel_rfl) rfl plain (by kernel_rfl)
#print axioms proved
end Go.Proofs.YtppceadhdckpmaaDoor.scannerFinds
