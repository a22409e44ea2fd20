/- Every function returns the state and the results of the document, in any sequence of calls. Proved for every input; no conditions. -/
import Derived.Test.YtlnbhdcaebmffaaGreatXPH
set_option linter.unusedVariables false
namespace Go.Proofs.YtlnbhdcaebmffaaGreat.procedurePlays
open Go Go.ChangeShapes Go.WideShapes Go.ChangeAt Go.RowKit Go.Aw Go.Aw.W
theorem own:ownKnob Tryz.prog.godebug=none:=by kernel_rfl
theorem glob_any {env:Env} {w:World} {g:Nat}: Γ S env w (S.glob g) (.pointer (some ⟨g,0,none⟩)):= Γ.any _
theorem walk {v0:Value} (x0:Law28Script) (b0:Law28Script.has x0) (w:World) (g0:Γ S (env0 w) w (Law28Script.av x0) v0): Calls Tryz.prog 3 #[v0] w fun e w'=>e = .returned (.bool true)∧Below w.heap.size w w' :=
 law_of procedurePlays.ok (args:=[Law28Script.av x0]) (vals:=[v0]) (x:=x0) (by kernel_rfl) (fun p hp=>by simp only [List.mem_singleton] at hp;subst hp;exact procedurePlays_pre x0 b0) (congrArg (fun b=>AV.v (Value.bool b)) (procedurePlays_true x0 b0)) (by kernel_rfl) (.cons g0 .nil) (fun g=>glob_any)
set_option maxRecDepth 100000 in
theorem lifted (os:Os) (started:os.Started) (H:Type) (enc:TypeId×Value→H):
  ReturnsInHanded {} Tryz.checked os 3 .any (Rows.procedurePlaysSpec.pre6 enc Tryz.prog Tryz.f3 Rows.procedurePlaysRow.domain false) (Rows.procedurePlaysSpec.post enc Tryz.prog Tryz.f3 false true false false):= by
 refine returnsInHanded_of_change_sized (C:=Tryz.checked) own started (by kernel_rfl) Tryz.func3
  (ChangeSpec.witness6 (enc:=enc) (C:=Tryz.checked) false ⟨#[],#[.agg #[.int .i64 0, .int .i64 0, .int .u64 0, .int .u16 0, .slice none 0 0]],[]⟩ 8 (by kernel_rfl) (by kernel_rfl) (by kernel_rfl) (by kernel_rfl)) ?_
 intro W base args ds gs before hval0 hW hcnd hsz _
 have hval : ∀(j:Nat) t v,Tryz.f3.params[j]? = some t→args[j]? = some v→Value.okWide Tryz.prog W .any base t v:=hval0
 have hW':=hW
 obtain ⟨p,q,hA0,hV,rfl,hfz,hnd⟩:= hW
 obtain ⟨rfl,rfl⟩:= trodVars_none hV
 rw [List.append_nil] at hW'
 have hA:DataW.TrodAll enc Tryz.prog W 0 (fun _=>true) true Tryz.f3.params.toList args.toList ds p:=hA0
 have hend : ∀W',Below W.heap.size W W'→Rows.procedurePlaysSpec.fn H (ds ++ [])= {results:=[.lit (.bool true)],args:=ds}→Rows.procedurePlaysSpec.post enc Tryz.prog Tryz.f3 false true false false W args (.bool true) W':=fun W' hb hfn =>
  post_true (tb:=4) (by kernel_rfl) hW' rfl hA (by decide +kernel) rfl Tryz.underlying4 hfn hb
 rw [Tryz.params3] at hA hval
 replace hsz:(DataW.weightsEach Tryz.prog (Tryz.f3.params.toList ++ Rows.procedurePlaysSpec.plain.varTypes Tryz.prog) (ds ++ [])).all (·≤reachBytes)= true:=hsz
 rw [Tryz.params3] at hsz
 obtain ⟨v0,vs0,d0,ds0,p0,q0,hargs,rfl,rfl,h0,r0⟩:= trodAll_cons hA
 obtain ⟨rfl,rfl,rfl⟩:= trodAll_nil r0
 obtain rfl:args = #[v0]:= by cases args;simp_all
 obtain ⟨x0,g0,b0⟩:= open_agg (S:=S) (by kernel_rfl) (Law28Script.opn) (hval 0 26 v0 rfl rfl) h0 (weights_arg hsz (j:=0) rfl rfl)
 refine (walk x0 b0 W g0).mono fun e W' ⟨he,hb⟩=> ?_
 subst he
 exact ⟨_,rfl,hend W' hb rfl⟩
theorem over:Rows.procedurePlaysRow.holds Tryz.pinned (OpenSpec.ofChange Rows.procedurePlaysSpec):=
 OpenClaim.holds_of_wide 3 Tryz.f3 rfl rfl rfl rfl rfl rfl rfl ⟨rfl,rfl,rfl,rfl,rfl⟩ rfl rfl rfl rfl rfl (by kernel_rfl) Tryz.func3 (by kernel_rfl)
  (of_decide_eq_true (by kernel_rfl)) (by unfold Func.isWrapper;first | (rw [if_pos (by decide +kernel)];kernel_rfl)| (rw [if_neg (by decide +kernel)];exact ⟨rfl,rfl⟩))
  (fun os started H enc _=>lifted os started H enc)
theorem proved:Rows.ProcedurePlaysSaid :=
 over
#print axioms proved
end Go.Proofs.YtlnbhdcaebmffaaGreat.procedurePlays
