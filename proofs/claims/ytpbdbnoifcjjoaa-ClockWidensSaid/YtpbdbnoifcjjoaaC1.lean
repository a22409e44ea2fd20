/- The clock seat: the signature of its data, and the contract of limit. -/
import Derived.Test.YtpbdbnoifcjjoaaRows
import Derived.Test.YtpbdbnoifcjjoaaAwE
set_option linter.unusedVariables false
namespace Go.Aw.Clock
open Go.Aw Go.Proofs
@[reducible] def ElC (t : TypeId) : Type := Int
def decK {El : TypeId → Type} (k : IntKind) : List (AV El) → Option Int
  | [.v (.int k' n)] => bif k' == k then some n else none
  | _ => none
theorem decK_spec {El : TypeId → Type} {k : IntKind} {cs : List (AV El)} {n : Int} (h : decK k cs = some n) : cs = [.v (.int k n)] := by
  unfold decK at h
  split at h
  · obtain ⟨h1, h2⟩ := cond_some h
    cases h2
    have := eq_of_beq h1
    subst this; rfl
  · cases h
def S : Sig := { El := ElC, dflt := fun _ => (0 : Int), sz := fun _ => 1, cell := fun t x => [.v (.int .i64 x)], dec := fun _ cs => decK .i64 cs, glob := fun _ => .any, ofBytes := fun _ => none }
theorem sigOk : SigOk S := by
  refine ⟨fun _ _ => rfl, fun _ => Nat.one_pos, fun t x c hc => ?_, fun _ => rfl, fun t cs x h env w vs hg => ?_, (fun t f h => by cases h)⟩
  · obtain rfl := List.mem_singleton.1 hc
    exact ⟨rfl, rfl⟩
  · have := decK_spec (show decK .i64 cs = some x from h)
    subst this
    exact hg
noncomputable def C0 : Cx := { P := Try.prog, S := S, T := fun _ => none, eqT := fun _ => false, F := fun n => match n with | 19 => some Try.f19 | _ => none }
theorem mixed : Try.prog.follows .mixedOrders = true := by kernel_rfl
theorem name19 : (Try.f19.name == "runtime.NumGoroutine") = false := by kernel_rfl
theorem ok0 : CxOk C0 := by
  refine ⟨sigOk, (fun t h => by cases h), (fun f ct h => by cases h), (fun f ct h => by cases h), fun f fn h => ?_, mixed⟩
  simp only [C0] at h
  split at h
  · cases h; exact ⟨Try.func19, name19⟩
  · cases h
def i (n : Int) : AV ElC := .v (.int .i64 n)
def limCt : Ct ElC := fun | [.v (.int .i64 a), .v (.int .i64 b), .v (.int .i64 c)] => some ([], .v (.int .i64 (minI (maxI a b) c)), []) | _ => none
theorem limCt_spec {args : List (AV ElC)} {r} (h : limCt args = some r) : ∃ a b c, args = [i a, i b, i c] ∧ r = ([], i (minI (maxI a b) c), []) := by
  unfold limCt at h
  split at h
  · cases h; exact ⟨_, _, _, rfl, rfl⟩
  · cases h
theorem lim_ok : CtOk C0 19 limCt := by
  refine ct_of_fun ok0 2 fun args ps r news h hp => ?_
  obtain ⟨a, b, c, rfl, hr⟩ := limCt_spec h
  cases hr
  have : evFun C0 2 19 [i a, i b, i c] [] (fun r' H' => Gives r' H' (i (minI (maxI a b) c)) []) = Gives (i (minI (maxI a b) c)) [] (i (minI (maxI a b) c)) [] := by kernel_rfl
  exact this ▸ ⟨rfl, rfl⟩
#print axioms lim_ok
end Go.Aw.Clock
