/-
  NARROWER THAN 'FOR EVERY INPUT', by the rows' own cells (each row's printed sentence says how): PrivacyMakes: laid · PrivacyResolves: laid · PrivacyOwn: laid · PrivacySearches: laid · PrivacyPeriods: laid · PrivacyFinds: laid · PrivacyConstant: laid.
  DERIVED. THE GIVEN ROWS OF THIS SEAT. 7 by the template 'for every input the law returns true; each argument reads behind the call as it read before'; 0 by the template 'total and deterministic' (their statements: YtaoadiciclopbaaDoorTotals.lean).
  GIVEN WITH THE SEED: the statements are not yours to turn. If you find one false, say at which input.
  Laid BY PROGRAM, IN A SANDBOX (cutbox-rows.mjs): the forced cells as the released guide's own fill.sh prints them over the translation aacf95ec9997e3f0… (all of the seat's roots in one cut). By AI agents, Wed Nov 11 2026. No macro, syntax, notation, axiom, sorry.
-/
import Derived.Test.YtaoadiciclopbaaDoorChecked
import GoSem.Claim
import GoSem.ClaimJoined
import GoSem.ClaimMapViews
import Derived.JoinedTies
import Derived.KernelRfl
namespace Go.Proofs.YtaoadiciclopbaaDoor
/- THE CELL 'sum', in the pinned program and in every row, IS THE sha256 OF THE DUMP (.gsa) THAT YtaoadiciclopbaaDoorProg.lean LOADS. Nothing in Lean hashes anything: it is a label: what it is worth is what the hold of that sum in a sandbox is worth. -/
noncomputable def Tryd.pinned : Pinned := { name := "ytaoadiciclopbaadoor", sum := "aacf95ec9997e3f0860960a0fa0481f379e06c6ddce2ac0138a76bdadb3296d6", checked := Tryd.checked }
namespace Rows
def none {H : Type} : Left H := { results := [], args := [] }

/- WHAT THE LISTED PACKAGE-LEVEL VARIABLES READ AS WHEN THE CALL BEGINS. Each datum BY PROGRAM (the guide's laid-datum.mjs) off the statement by which the dump's own 'gosem.cut.vars' lays the variable. In a bare row this is a premise. The card (YtaoadiciclopbaaDoorCards.lean) ties it to the program's text. -/
def laid_wireless_address_prefixes {H : Type} : DataW H := .agg [.lit (.int .u64 0), .lit (.int .u64 0), .lit (.int .u64 3), .lit (.int .u64 1), .lit (.int .u64 0)]

/-- 'wirelesslaw09.PrivacyMakes': WHATEVER THE INPUT: true; the input reads as it did. -/
def privacyMakesSpec : ChangeSpec := { name := "privacyMakes", fn := fun _ => fun
  | [d1, d2] => { results := [.lit (.bool true)], args := [d1, d2] }
  | _ => none }
def privacyMakesRow : OpenClaim := { program := "ytaoadiciclopbaadoor", sum := "aacf95ec9997e3f0860960a0fa0481f379e06c6ddce2ac0138a76bdadb3296d6", func := "wireless/wirelesslaw09.PrivacyMakes", spec := "privacyMakes", unfollowed := true, recurses := true, named := ["wireless/address.prefixes"], apart := false, laid := [("wireless/address.prefixes", laid_wireless_address_prefixes)] }
def PrivacyMakesSaid : Prop := privacyMakesRow.holds Tryd.pinned (OpenSpec.ofChange privacyMakesSpec)

/-- ITS FALSE NEIGHBOUR: 'it returns false'. Refute it at one input. -/
def privacyMakesWrong : ChangeSpec := { name := "privacyMakes", fn := fun _ => fun
  | [d1, d2] => { results := [.lit (.bool false)], args := [d1, d2] }
  | _ => none }
def PrivacyMakesWrongFalsely : Prop := privacyMakesRow.holds Tryd.pinned (OpenSpec.ofChange privacyMakesWrong)

/-- 'wirelesslaw09.PrivacyResolves': WHATEVER THE INPUT: true; the input reads as it did. -/
def privacyResolvesSpec : ChangeSpec := { name := "privacyResolves", fn := fun _ => fun
  | [d1, d2] => { results := [.lit (.bool true)], args := [d1, d2] }
  | _ => none }
def privacyResolvesRow : OpenClaim := { program := "ytaoadiciclopbaadoor", sum := "aacf95ec9997e3f0860960a0fa0481f379e06c6ddce2ac0138a76bdadb3296d6", func := "wireless/wirelesslaw09.PrivacyResolves", spec := "privacyResolves", unfollowed := true, recurses := true, named := ["wireless/address.prefixes"], apart := false, laid := [("wireless/address.prefixes", laid_wireless_address_prefixes)] }
def PrivacyResolvesSaid : Prop := privacyResolvesRow.holds Tryd.pinned (OpenSpec.ofChange privacyResolvesSpec)

/-- ITS FALSE NEIGHBOUR: 'it returns false'. Refute it at one input. -/
def privacyResolvesWrong : ChangeSpec := { name := "privacyResolves", fn := fun _ => fun
  | [d1, d2] => { results := [.lit (.bool false)], args := [d1, d2] }
  | _ => none }
def PrivacyResolvesWrongFalsely : Prop := privacyResolvesRow.holds Tryd.pinned (OpenSpec.ofChange privacyResolvesWrong)

/-- 'wirelesslaw09.PrivacyOwn': WHATEVER THE INPUT: true; the input reads as it did. -/
def privacyOwnSpec : ChangeSpec := { name := "privacyOwn", fn := fun _ => fun
  | [d1, d2] => { results := [.lit (.bool true)], args := [d1, d2] }
  | _ => none }
def privacyOwnRow : OpenClaim := { program := "ytaoadiciclopbaadoor", sum := "aacf95ec9997e3f0860960a0fa0481f379e06c6ddce2ac0138a76bdadb3296d6", func := "wireless/wirelesslaw09.PrivacyOwn", spec := "privacyOwn", unfollowed := true, recurses := true, named := ["wireless/address.prefixes"], apart := false, laid := [("wireless/address.prefixes", laid_wireless_address_prefixes)] }
def PrivacyOwnSaid : Prop := privacyOwnRow.holds Tryd.pinned (OpenSpec.ofChange privacyOwnSpec)

/-- ITS FALSE NEIGHBOUR: 'it returns false'. Refute it at one input. -/
def privacyOwnWrong : ChangeSpec := { name := "privacyOwn", fn := fun _ => fun
  | [d1, d2] => { results := [.lit (.bool false)], args := [d1, d2] }
  | _ => none }
def PrivacyOwnWrongFalsely : Prop := privacyOwnRow.holds Tryd.pinned (OpenSpec.ofChange privacyOwnWrong)

/-- 'wirelesslaw09.PrivacySearches': WHATEVER THE INPUT: true; the input reads as it did. -/
def privacySearchesSpec : ChangeSpec := { name := "privacySearches", fn := fun _ => fun
  | [d1, d2] => { results := [.lit (.bool true)], args := [d1, d2] }
  | _ => none }
def privacySearchesRow : OpenClaim := { program := "ytaoadiciclopbaadoor", sum := "aacf95ec9997e3f0860960a0fa0481f379e06c6ddce2ac0138a76bdadb3296d6", func := "wireless/wirelesslaw09.PrivacySearches", spec := "privacySearches", unfollowed := true, recurses := true, named := ["wireless/address.prefixes"], apart := false, laid := [("wireless/address.prefixes", laid_wireless_address_prefixes)] }
def PrivacySearchesSaid : Prop := privacySearchesRow.holds Tryd.pinned (OpenSpec.ofChange privacySearchesSpec)

/-- ITS FALSE NEIGHBOUR: 'it returns false'. Refute it at one input. -/
def privacySearchesWrong : ChangeSpec := { name := "privacySearches", fn := fun _ => fun
  | [d1, d2] => { results := [.lit (.bool false)], args := [d1, d2] }
  | _ => none }
def PrivacySearchesWrongFalsely : Prop := privacySearchesRow.holds Tryd.pinned (OpenSpec.ofChange privacySearchesWrong)

/-- 'wirelesslaw09.PrivacyPeriods': WHATEVER THE INPUT: true; the input reads as it did. -/
def privacyPeriodsSpec : ChangeSpec := { name := "privacyPeriods", fn := fun _ => fun
  | [d1, d2, d3, d4, d5] => { results := [.lit (.bool true)], args := [d1, d2, d3, d4, d5] }
  | _ => none }
def privacyPeriodsRow : OpenClaim := { program := "ytaoadiciclopbaadoor", sum := "aacf95ec9997e3f0860960a0fa0481f379e06c6ddce2ac0138a76bdadb3296d6", func := "wireless/wirelesslaw09.PrivacyPeriods", spec := "privacyPeriods", unfollowed := true, recurses := true, named := ["wireless/address.prefixes"], apart := false, laid := [("wireless/address.prefixes", laid_wireless_address_prefixes)] }
def PrivacyPeriodsSaid : Prop := privacyPeriodsRow.holds Tryd.pinned (OpenSpec.ofChange privacyPeriodsSpec)

/-- ITS FALSE NEIGHBOUR: 'it returns false'. Refute it at one input. -/
def privacyPeriodsWrong : ChangeSpec := { name := "privacyPeriods", fn := fun _ => fun
  | [d1, d2, d3, d4, d5] => { results := [.lit (.bool false)], args := [d1, d2, d3, d4, d5] }
  | _ => none }
def PrivacyPeriodsWrongFalsely : Prop := privacyPeriodsRow.holds Tryd.pinned (OpenSpec.ofChange privacyPeriodsWrong)

/-- 'wirelesslaw09.PrivacyFinds': WHATEVER THE INPUT: true; the input reads as it did. -/
def privacyFindsSpec : ChangeSpec := { name := "privacyFinds", fn := fun _ => fun
  | [d1, d2, d3, d4] => { results := [.lit (.bool true)], args := [d1, d2, d3, d4] }
  | _ => none }
def privacyFindsRow : OpenClaim := { program := "ytaoadiciclopbaadoor", sum := "aacf95ec9997e3f0860960a0fa0481f379e06c6ddce2ac0138a76bdadb3296d6", func := "wireless/wirelesslaw09.PrivacyFinds", spec := "privacyFinds", unfollowed := true, recurses := true, named := ["wireless/address.prefixes"], apart := false, laid := [("wireless/address.prefixes", laid_wireless_address_prefixes)] }
def PrivacyFindsSaid : Prop := privacyFindsRow.holds Tryd.pinned (OpenSpec.ofChange privacyFindsSpec)

/-- ITS FALSE NEIGHBOUR: 'it returns false'. Refute it at one input. -/
def privacyFindsWrong : ChangeSpec := { name := "privacyFinds", fn := fun _ => fun
  | [d1, d2, d3, d4] => { results := [.lit (.bool false)], args := [d1, d2, d3, d4] }
  | _ => none }
def PrivacyFindsWrongFalsely : Prop := privacyFindsRow.holds Tryd.pinned (OpenSpec.ofChange privacyFindsWrong)

/-- 'wirelesslaw09.PrivacyConstant': WHATEVER THE INPUT: true; the input reads as it did. -/
def privacyConstantSpec : ChangeSpec := { name := "privacyConstant", fn := fun _ => fun
  | [d1, d2, d3, d4, d5] => { results := [.lit (.bool true)], args := [d1, d2, d3, d4, d5] }
  | _ => none }
def privacyConstantRow : OpenClaim := { program := "ytaoadiciclopbaadoor", sum := "aacf95ec9997e3f0860960a0fa0481f379e06c6ddce2ac0138a76bdadb3296d6", func := "wireless/wirelesslaw09.PrivacyConstant", spec := "privacyConstant", unfollowed := true, recurses := true, named := ["wireless/address.prefixes"], apart := false, laid := [("wireless/address.prefixes", laid_wireless_address_prefixes)] }
def PrivacyConstantSaid : Prop := privacyConstantRow.holds Tryd.pinned (OpenSpec.ofChange privacyConstantSpec)

/-- ITS FALSE NEIGHBOUR: 'it returns false'. Refute it at one input. -/
def privacyConstantWrong : ChangeSpec := { name := "privacyConstant", fn := fun _ => fun
  | [d1, d2, d3, d4, d5] => { results := [.lit (.bool false)], args := [d1, d2, d3, d4, d5] }
  | _ => none }
def PrivacyConstantWrongFalsely : Prop := privacyConstantRow.holds Tryd.pinned (OpenSpec.ofChange privacyConstantWrong)

/- THE SECOND FORM. 'bulk': how many values and letters a reading holds, each counted each time it is reached (what is shared counts as often as it is met; a slice's spare places count too). A statement '..UptoSaid' is the law's where the arguments, and the package variables that the reading takes, are together of bulk at most 1048576: NARROWER than '..Said'. Prove '..Said' where nothing that the law and all that it calls make is longer than what came in: it says more and counts as full. Else prove '..UptoSaid'. A law counts once. -/
mutual
def uptoBulk {H : Type} : DataW H → Nat
  | .lit (.string bytes) => bytes.length + 1
  | .lit _ => 1
  | .nil => 1
  | .ptr d => uptoBulk d + 1
  | .slice elems spare => uptoBulkAll elems + uptoBulkAll spare + 1
  | .agg parts => uptoBulkAll parts + 1
  | .iface _ d => uptoBulk d + 1
  | .map entries => uptoBulkEntries entries + 1
  | .held _ => 1
def uptoBulkAll {H : Type} : List (DataW H) → Nat
  | [] => 0
  | d :: r => uptoBulk d + uptoBulkAll r
def uptoBulkEntries {H : Type} : List (Lit × DataW H) → Nat
  | [] => 0
  | x :: r => uptoBulkEntry x + uptoBulkEntries r
def uptoBulkEntry {H : Type} : Lit × DataW H → Nat
  | (.string bytes, d) => bytes.length + uptoBulk d + 1
  | (_, d) => uptoBulk d + 1
 end
def uptoSmall : (H : Type) → List (DataW H) → Bool := fun _ ds => decide (uptoBulkAll ds ≤ 1048576)
def OpenSpec.upto (s : _root_.Go.ChangeSpec) : _root_.Go.OpenSpec := { _root_.Go.OpenSpec.ofChange s with cond := some uptoSmall }

/-- 'wirelesslaw09.PrivacyMakes', WHERE WHAT IT READS IS OF BULK AT MOST 1048576: true; the input reads as it did. -/
def privacyMakesUptoRow : OpenClaim := { program := "ytaoadiciclopbaadoor", sum := "aacf95ec9997e3f0860960a0fa0481f379e06c6ddce2ac0138a76bdadb3296d6", func := "wireless/wirelesslaw09.PrivacyMakes", spec := "privacyMakes", unfollowed := true, recurses := true, named := ["wireless/address.prefixes"], apart := false, laid := [("wireless/address.prefixes", laid_wireless_address_prefixes)], narrowed := true }
def PrivacyMakesUptoSaid : Prop := privacyMakesUptoRow.holds Tryd.pinned (OpenSpec.upto privacyMakesSpec)

/-- 'wirelesslaw09.PrivacyResolves', WHERE WHAT IT READS IS OF BULK AT MOST 1048576: true; the input reads as it did. -/
def privacyResolvesUptoRow : OpenClaim := { program := "ytaoadiciclopbaadoor", sum := "aacf95ec9997e3f0860960a0fa0481f379e06c6ddce2ac0138a76bdadb3296d6", func := "wireless/wirelesslaw09.PrivacyResolves", spec := "privacyResolves", unfollowed := true, recurses := true, named := ["wireless/address.prefixes"], apart := false, laid := [("wireless/address.prefixes", laid_wireless_address_prefixes)], narrowed := true }
def PrivacyResolvesUptoSaid : Prop := privacyResolvesUptoRow.holds Tryd.pinned (OpenSpec.upto privacyResolvesSpec)

/-- 'wirelesslaw09.PrivacyOwn', WHERE WHAT IT READS IS OF BULK AT MOST 1048576: true; the input reads as it did. -/
def privacyOwnUptoRow : OpenClaim := { program := "ytaoadiciclopbaadoor", sum := "aacf95ec9997e3f0860960a0fa0481f379e06c6ddce2ac0138a76bdadb3296d6", func := "wireless/wirelesslaw09.PrivacyOwn", spec := "privacyOwn", unfollowed := true, recurses := true, named := ["wireless/address.prefixes"], apart := false, laid := [("wireless/address.prefixes", laid_wireless_address_prefixes)], narrowed := true }
def PrivacyOwnUptoSaid : Prop := privacyOwnUptoRow.holds Tryd.pinned (OpenSpec.upto privacyOwnSpec)

/-- 'wirelesslaw09.PrivacySearches', WHERE WHAT IT READS IS OF BULK AT MOST 1048576: true; the input reads as it did. -/
def privacySearchesUptoRow : OpenClaim := { program := "ytaoadiciclopbaadoor", sum := "aacf95ec9997e3f0860960a0fa0481f379e06c6ddce2ac0138a76bdadb3296d6", func := "wireless/wirelesslaw09.PrivacySearches", spec := "privacySearches", unfollowed := true, recurses := true, named := ["wireless/address.prefixes"], apart := false, laid := [("wireless/address.prefixes", laid_wireless_address_prefixes)], narrowed := true }
def PrivacySearchesUptoSaid : Prop := privacySearchesUptoRow.holds Tryd.pinned (OpenSpec.upto privacySearchesSpec)

/-- 'wirelesslaw09.PrivacyPeriods', WHERE WHAT IT READS IS OF BULK AT MOST 1048576: true; the input reads as it did. -/
def privacyPeriodsUptoRow : OpenClaim := { program := "ytaoadiciclopbaadoor", sum := "aacf95ec9997e3f0860960a0fa0481f379e06c6ddce2ac0138a76bdadb3296d6", func := "wireless/wirelesslaw09.PrivacyPeriods", spec := "privacyPeriods", unfollowed := true, recurses := true, named := ["wireless/address.prefixes"], apart := false, laid := [("wireless/address.prefixes", laid_wireless_address_prefixes)], narrowed := true }
def PrivacyPeriodsUptoSaid : Prop := privacyPeriodsUptoRow.holds Tryd.pinned (OpenSpec.upto privacyPeriodsSpec)

/-- 'wirelesslaw09.PrivacyFinds', WHERE WHAT IT READS IS OF BULK AT MOST 1048576: true; the input reads as it did. -/
def privacyFindsUptoRow : OpenClaim := { program := "ytaoadiciclopbaadoor", sum := "aacf95ec9997e3f0860960a0fa0481f379e06c6ddce2ac0138a76bdadb3296d6", func := "wireless/wirelesslaw09.PrivacyFinds", spec := "privacyFinds", unfollowed := true, recurses := true, named := ["wireless/address.prefixes"], apart := false, laid := [("wireless/address.prefixes", laid_wireless_address_prefixes)], narrowed := true }
def PrivacyFindsUptoSaid : Prop := privacyFindsUptoRow.holds Tryd.pinned (OpenSpec.upto privacyFindsSpec)

/-- 'wirelesslaw09.PrivacyConstant', WHERE WHAT IT READS IS OF BULK AT MOST 1048576: true; the input reads as it did. -/
def privacyConstantUptoRow : OpenClaim := { program := "ytaoadiciclopbaadoor", sum := "aacf95ec9997e3f0860960a0fa0481f379e06c6ddce2ac0138a76bdadb3296d6", func := "wireless/wirelesslaw09.PrivacyConstant", spec := "privacyConstant", unfollowed := true, recurses := true, named := ["wireless/address.prefixes"], apart := false, laid := [("wireless/address.prefixes", laid_wireless_address_prefixes)], narrowed := true }
def PrivacyConstantUptoSaid : Prop := privacyConstantUptoRow.holds Tryd.pinned (OpenSpec.upto privacyConstantSpec)

end Rows
end Go.Proofs.YtaoadiciclopbaaDoor
