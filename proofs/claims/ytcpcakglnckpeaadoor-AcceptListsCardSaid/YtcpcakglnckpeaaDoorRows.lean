/-
  NARROWER THAN 'FOR EVERY INPUT', by the rows' own cells (each row's printed sentence says how): AcceptAdds: laid · AcceptRemoves: laid · AcceptHas: laid · AcceptAllows: laid · AcceptLists: laid · AcceptPolicies: laid · AdvpduChecks: laid · AdvpduEncodes: laid · AdvpduDecodes: laid · AdvpduKinds: laid · AdvpduBack: laid · AdvpduLengths: laid.
  DERIVED. THE GIVEN ROWS OF THIS SEAT. 12 by the template 'for every input the law returns true; each argument reads behind the call as it read before'; 0 by the template 'total and deterministic' (their statements: YtcpcakglnckpeaaDoorTotals.lean).
  GIVEN WITH THE SEED: the statements are not yours to turn. If you find one false, say at which input.
  Laid BY PROGRAM, IN A SANDBOX (cutbox-rows.mjs): the forced cells as the released guide's own fill.sh prints them over the translation e165b362509d4f94… (all of the seat's roots in one cut). By AI agents, Wed Nov 11 2026. No macro, syntax, notation, axiom, sorry.
-/
import Derived.Test.YtcpcakglnckpeaaDoorChecked
import GoSem.Claim
import GoSem.ClaimJoined
import GoSem.ClaimMapViews
import Derived.JoinedTies
import Derived.KernelRfl
namespace Go.Proofs.YtcpcakglnckpeaaDoor
/- THE CELL 'sum', in the pinned program and in every row, IS THE sha256 OF THE DUMP (.gsa) THAT YtcpcakglnckpeaaDoorProg.lean LOADS. Nothing in Lean hashes anything: it is a label: what it is worth is what the hold of that sum in a sandbox is worth. -/
noncomputable def Tryd.pinned : Pinned := { name := "ytcpcakglnckpeaadoor", sum := "e165b362509d4f946efbb912e068981c1b007e62cfe28fa30ce2e0567e07ebd9", checked := Tryd.checked }
namespace Rows
def none {H : Type} : Left H := { results := [], args := [] }

/- WHAT THE LISTED PACKAGE-LEVEL VARIABLES READ AS WHEN THE CALL BEGINS. Each datum BY PROGRAM (the guide's laid-datum.mjs) off the statement by which the dump's own 'gosem.cut.vars' lays the variable. In a bare row this is a premise. The card (YtcpcakglnckpeaaDoorCards.lean) ties it to the program's text. -/
def laid_wireless_address_prefixes {H : Type} : DataW H := .agg [.lit (.int .u64 0), .lit (.int .u64 0), .lit (.int .u64 3), .lit (.int .u64 1), .lit (.int .u64 0)]

/-- 'wirelesslaw20.AcceptAdds': WHATEVER THE INPUT: true; the input reads as it did. -/
def acceptAddsSpec : ChangeSpec := { name := "acceptAdds", fn := fun _ => fun
  | [d1, d2] => { results := [.lit (.bool true)], args := [d1, d2] }
  | _ => none }
def acceptAddsRow : OpenClaim := { program := "ytcpcakglnckpeaadoor", sum := "e165b362509d4f946efbb912e068981c1b007e62cfe28fa30ce2e0567e07ebd9", func := "wireless/wirelesslaw20.AcceptAdds", spec := "acceptAdds", unfollowed := true, recurses := true, named := ["wireless/address.prefixes"], apart := false, laid := [("wireless/address.prefixes", laid_wireless_address_prefixes)] }
def AcceptAddsSaid : Prop := acceptAddsRow.holds Tryd.pinned (OpenSpec.ofChange acceptAddsSpec)

/-- ITS FALSE NEIGHBOUR: 'it returns false'. Refute it at one input. -/
def acceptAddsWrong : ChangeSpec := { name := "acceptAdds", fn := fun _ => fun
  | [d1, d2] => { results := [.lit (.bool false)], args := [d1, d2] }
  | _ => none }
def AcceptAddsWrongFalsely : Prop := acceptAddsRow.holds Tryd.pinned (OpenSpec.ofChange acceptAddsWrong)

/-- 'wirelesslaw20.AcceptRemoves': WHATEVER THE INPUT: true; the input reads as it did. -/
def acceptRemovesSpec : ChangeSpec := { name := "acceptRemoves", fn := fun _ => fun
  | [d1, d2] => { results := [.lit (.bool true)], args := [d1, d2] }
  | _ => none }
def acceptRemovesRow : OpenClaim := { program := "ytcpcakglnckpeaadoor", sum := "e165b362509d4f946efbb912e068981c1b007e62cfe28fa30ce2e0567e07ebd9", func := "wireless/wirelesslaw20.AcceptRemoves", spec := "acceptRemoves", unfollowed := true, recurses := true, named := ["wireless/address.prefixes"], apart := false, laid := [("wireless/address.prefixes", laid_wireless_address_prefixes)] }
def AcceptRemovesSaid : Prop := acceptRemovesRow.holds Tryd.pinned (OpenSpec.ofChange acceptRemovesSpec)

/-- ITS FALSE NEIGHBOUR: 'it returns false'. Refute it at one input. -/
def acceptRemovesWrong : ChangeSpec := { name := "acceptRemoves", fn := fun _ => fun
  | [d1, d2] => { results := [.lit (.bool false)], args := [d1, d2] }
  | _ => none }
def AcceptRemovesWrongFalsely : Prop := acceptRemovesRow.holds Tryd.pinned (OpenSpec.ofChange acceptRemovesWrong)

/-- 'wirelesslaw20.AcceptHas': WHATEVER THE INPUT: true; the input reads as it did. -/
def acceptHasSpec : ChangeSpec := { name := "acceptHas", fn := fun _ => fun
  | [d1, d2, d3] => { results := [.lit (.bool true)], args := [d1, d2, d3] }
  | _ => none }
def acceptHasRow : OpenClaim := { program := "ytcpcakglnckpeaadoor", sum := "e165b362509d4f946efbb912e068981c1b007e62cfe28fa30ce2e0567e07ebd9", func := "wireless/wirelesslaw20.AcceptHas", spec := "acceptHas", unfollowed := true, recurses := true, named := ["wireless/address.prefixes"], apart := false, laid := [("wireless/address.prefixes", laid_wireless_address_prefixes)] }
def AcceptHasSaid : Prop := acceptHasRow.holds Tryd.pinned (OpenSpec.ofChange acceptHasSpec)

/-- ITS FALSE NEIGHBOUR: 'it returns false'. Refute it at one input. -/
def acceptHasWrong : ChangeSpec := { name := "acceptHas", fn := fun _ => fun
  | [d1, d2, d3] => { results := [.lit (.bool false)], args := [d1, d2, d3] }
  | _ => none }
def AcceptHasWrongFalsely : Prop := acceptHasRow.holds Tryd.pinned (OpenSpec.ofChange acceptHasWrong)

/-- 'wirelesslaw20.AcceptAllows': WHATEVER THE INPUT: true; the input reads as it did. -/
def acceptAllowsSpec : ChangeSpec := { name := "acceptAllows", fn := fun _ => fun
  | [d1, d2, d3] => { results := [.lit (.bool true)], args := [d1, d2, d3] }
  | _ => none }
def acceptAllowsRow : OpenClaim := { program := "ytcpcakglnckpeaadoor", sum := "e165b362509d4f946efbb912e068981c1b007e62cfe28fa30ce2e0567e07ebd9", func := "wireless/wirelesslaw20.AcceptAllows", spec := "acceptAllows", unfollowed := true, recurses := true, named := ["wireless/address.prefixes"], apart := false, laid := [("wireless/address.prefixes", laid_wireless_address_prefixes)] }
def AcceptAllowsSaid : Prop := acceptAllowsRow.holds Tryd.pinned (OpenSpec.ofChange acceptAllowsSpec)

/-- ITS FALSE NEIGHBOUR: 'it returns false'. Refute it at one input. -/
def acceptAllowsWrong : ChangeSpec := { name := "acceptAllows", fn := fun _ => fun
  | [d1, d2, d3] => { results := [.lit (.bool false)], args := [d1, d2, d3] }
  | _ => none }
def AcceptAllowsWrongFalsely : Prop := acceptAllowsRow.holds Tryd.pinned (OpenSpec.ofChange acceptAllowsWrong)

/-- 'wirelesslaw20.AcceptLists': WHATEVER THE INPUT: true; the input reads as it did. -/
def acceptListsSpec : ChangeSpec := { name := "acceptLists", fn := fun _ => fun
  | [d] => { results := [.lit (.bool true)], args := [d] }
  | _ => none }
def acceptListsRow : OpenClaim := { program := "ytcpcakglnckpeaadoor", sum := "e165b362509d4f946efbb912e068981c1b007e62cfe28fa30ce2e0567e07ebd9", func := "wireless/wirelesslaw20.AcceptLists", spec := "acceptLists", unfollowed := true, recurses := true, named := ["wireless/address.prefixes"], apart := false, laid := [("wireless/address.prefixes", laid_wireless_address_prefixes)] }
def AcceptListsSaid : Prop := acceptListsRow.holds Tryd.pinned (OpenSpec.ofChange acceptListsSpec)

/-- ITS FALSE NEIGHBOUR: 'it returns false'. Refute it at one input. -/
def acceptListsWrong : ChangeSpec := { name := "acceptLists", fn := fun _ => fun
  | [d] => { results := [.lit (.bool false)], args := [d] }
  | _ => none }
def AcceptListsWrongFalsely : Prop := acceptListsRow.holds Tryd.pinned (OpenSpec.ofChange acceptListsWrong)

/-- 'wirelesslaw20.AcceptPolicies': WHATEVER THE INPUT: true; the input reads as it did. -/
def acceptPoliciesSpec : ChangeSpec := { name := "acceptPolicies", fn := fun _ => fun
  | [d1, d2, d3] => { results := [.lit (.bool true)], args := [d1, d2, d3] }
  | _ => none }
def acceptPoliciesRow : OpenClaim := { program := "ytcpcakglnckpeaadoor", sum := "e165b362509d4f946efbb912e068981c1b007e62cfe28fa30ce2e0567e07ebd9", func := "wireless/wirelesslaw20.AcceptPolicies", spec := "acceptPolicies", unfollowed := true, recurses := true, named := ["wireless/address.prefixes"], apart := false, laid := [("wireless/address.prefixes", laid_wireless_address_prefixes)] }
def AcceptPoliciesSaid : Prop := acceptPoliciesRow.holds Tryd.pinned (OpenSpec.ofChange acceptPoliciesSpec)

/-- ITS FALSE NEIGHBOUR: 'it returns false'. Refute it at one input. -/
def acceptPoliciesWrong : ChangeSpec := { name := "acceptPolicies", fn := fun _ => fun
  | [d1, d2, d3] => { results := [.lit (.bool false)], args := [d1, d2, d3] }
  | _ => none }
def AcceptPoliciesWrongFalsely : Prop := acceptPoliciesRow.holds Tryd.pinned (OpenSpec.ofChange acceptPoliciesWrong)

/-- 'wirelesslaw19.AdvpduChecks': WHATEVER THE INPUT: true; the input reads as it did. -/
def advpduChecksSpec : ChangeSpec := { name := "advpduChecks", fn := fun _ => fun
  | [d] => { results := [.lit (.bool true)], args := [d] }
  | _ => none }
def advpduChecksRow : OpenClaim := { program := "ytcpcakglnckpeaadoor", sum := "e165b362509d4f946efbb912e068981c1b007e62cfe28fa30ce2e0567e07ebd9", func := "wireless/wirelesslaw19.AdvpduChecks", spec := "advpduChecks", unfollowed := true, recurses := true, named := ["wireless/address.prefixes"], apart := false, laid := [("wireless/address.prefixes", laid_wireless_address_prefixes)] }
def AdvpduChecksSaid : Prop := advpduChecksRow.holds Tryd.pinned (OpenSpec.ofChange advpduChecksSpec)

/-- ITS FALSE NEIGHBOUR: 'it returns false'. Refute it at one input. -/
def advpduChecksWrong : ChangeSpec := { name := "advpduChecks", fn := fun _ => fun
  | [d] => { results := [.lit (.bool false)], args := [d] }
  | _ => none }
def AdvpduChecksWrongFalsely : Prop := advpduChecksRow.holds Tryd.pinned (OpenSpec.ofChange advpduChecksWrong)

/-- 'wirelesslaw19.AdvpduEncodes': WHATEVER THE INPUT: true; the input reads as it did. -/
def advpduEncodesSpec : ChangeSpec := { name := "advpduEncodes", fn := fun _ => fun
  | [d] => { results := [.lit (.bool true)], args := [d] }
  | _ => none }
def advpduEncodesRow : OpenClaim := { program := "ytcpcakglnckpeaadoor", sum := "e165b362509d4f946efbb912e068981c1b007e62cfe28fa30ce2e0567e07ebd9", func := "wireless/wirelesslaw19.AdvpduEncodes", spec := "advpduEncodes", unfollowed := true, recurses := true, named := ["wireless/address.prefixes"], apart := false, laid := [("wireless/address.prefixes", laid_wireless_address_prefixes)] }
def AdvpduEncodesSaid : Prop := advpduEncodesRow.holds Tryd.pinned (OpenSpec.ofChange advpduEncodesSpec)

/-- ITS FALSE NEIGHBOUR: 'it returns false'. Refute it at one input. -/
def advpduEncodesWrong : ChangeSpec := { name := "advpduEncodes", fn := fun _ => fun
  | [d] => { results := [.lit (.bool false)], args := [d] }
  | _ => none }
def AdvpduEncodesWrongFalsely : Prop := advpduEncodesRow.holds Tryd.pinned (OpenSpec.ofChange advpduEncodesWrong)

/-- 'wirelesslaw19.AdvpduDecodes': WHATEVER THE INPUT: true; the input reads as it did. -/
def advpduDecodesSpec : ChangeSpec := { name := "advpduDecodes", fn := fun _ => fun
  | [d] => { results := [.lit (.bool true)], args := [d] }
  | _ => none }
def advpduDecodesRow : OpenClaim := { program := "ytcpcakglnckpeaadoor", sum := "e165b362509d4f946efbb912e068981c1b007e62cfe28fa30ce2e0567e07ebd9", func := "wireless/wirelesslaw19.AdvpduDecodes", spec := "advpduDecodes", unfollowed := true, recurses := true, named := ["wireless/address.prefixes"], apart := false, laid := [("wireless/address.prefixes", laid_wireless_address_prefixes)] }
def AdvpduDecodesSaid : Prop := advpduDecodesRow.holds Tryd.pinned (OpenSpec.ofChange advpduDecodesSpec)

/-- ITS FALSE NEIGHBOUR: 'it returns false'. Refute it at one input. -/
def advpduDecodesWrong : ChangeSpec := { name := "advpduDecodes", fn := fun _ => fun
  | [d] => { results := [.lit (.bool false)], args := [d] }
  | _ => none }
def AdvpduDecodesWrongFalsely : Prop := advpduDecodesRow.holds Tryd.pinned (OpenSpec.ofChange advpduDecodesWrong)

/-- 'wirelesslaw19.AdvpduKinds': WHATEVER THE INPUT: true; the input reads as it did. -/
def advpduKindsSpec : ChangeSpec := { name := "advpduKinds", fn := fun _ => fun
  | [d] => { results := [.lit (.bool true)], args := [d] }
  | _ => none }
def advpduKindsRow : OpenClaim := { program := "ytcpcakglnckpeaadoor", sum := "e165b362509d4f946efbb912e068981c1b007e62cfe28fa30ce2e0567e07ebd9", func := "wireless/wirelesslaw19.AdvpduKinds", spec := "advpduKinds", unfollowed := true, recurses := true, named := ["wireless/address.prefixes"], apart := false, laid := [("wireless/address.prefixes", laid_wireless_address_prefixes)] }
def AdvpduKindsSaid : Prop := advpduKindsRow.holds Tryd.pinned (OpenSpec.ofChange advpduKindsSpec)

/-- ITS FALSE NEIGHBOUR: 'it returns false'. Refute it at one input. -/
def advpduKindsWrong : ChangeSpec := { name := "advpduKinds", fn := fun _ => fun
  | [d] => { results := [.lit (.bool false)], args := [d] }
  | _ => none }
def AdvpduKindsWrongFalsely : Prop := advpduKindsRow.holds Tryd.pinned (OpenSpec.ofChange advpduKindsWrong)

/-- 'wirelesslaw19.AdvpduBack': WHATEVER THE INPUT: true; the input reads as it did. -/
def advpduBackSpec : ChangeSpec := { name := "advpduBack", fn := fun _ => fun
  | [d1, d2] => { results := [.lit (.bool true)], args := [d1, d2] }
  | _ => none }
def advpduBackRow : OpenClaim := { program := "ytcpcakglnckpeaadoor", sum := "e165b362509d4f946efbb912e068981c1b007e62cfe28fa30ce2e0567e07ebd9", func := "wireless/wirelesslaw19.AdvpduBack", spec := "advpduBack", unfollowed := true, recurses := true, named := ["wireless/address.prefixes"], apart := false, laid := [("wireless/address.prefixes", laid_wireless_address_prefixes)] }
def AdvpduBackSaid : Prop := advpduBackRow.holds Tryd.pinned (OpenSpec.ofChange advpduBackSpec)

/-- ITS FALSE NEIGHBOUR: 'it returns false'. Refute it at one input. -/
def advpduBackWrong : ChangeSpec := { name := "advpduBack", fn := fun _ => fun
  | [d1, d2] => { results := [.lit (.bool false)], args := [d1, d2] }
  | _ => none }
def AdvpduBackWrongFalsely : Prop := advpduBackRow.holds Tryd.pinned (OpenSpec.ofChange advpduBackWrong)

/-- 'wirelesslaw19.AdvpduLengths': WHATEVER THE INPUT: true; the input reads as it did. -/
def advpduLengthsSpec : ChangeSpec := { name := "advpduLengths", fn := fun _ => fun
  | [d] => { results := [.lit (.bool true)], args := [d] }
  | _ => none }
def advpduLengthsRow : OpenClaim := { program := "ytcpcakglnckpeaadoor", sum := "e165b362509d4f946efbb912e068981c1b007e62cfe28fa30ce2e0567e07ebd9", func := "wireless/wirelesslaw19.AdvpduLengths", spec := "advpduLengths", unfollowed := true, recurses := true, named := ["wireless/address.prefixes"], apart := false, laid := [("wireless/address.prefixes", laid_wireless_address_prefixes)] }
def AdvpduLengthsSaid : Prop := advpduLengthsRow.holds Tryd.pinned (OpenSpec.ofChange advpduLengthsSpec)

/-- ITS FALSE NEIGHBOUR: 'it returns false'. Refute it at one input. -/
def advpduLengthsWrong : ChangeSpec := { name := "advpduLengths", fn := fun _ => fun
  | [d] => { results := [.lit (.bool false)], args := [d] }
  | _ => none }
def AdvpduLengthsWrongFalsely : Prop := advpduLengthsRow.holds Tryd.pinned (OpenSpec.ofChange advpduLengthsWrong)

/- THE SECOND FORM. 'bulk': how many values and letters a reading holds, each counted each time it is reached (what is shared counts as often as it is met; a slice's spare places count too). A statement '..UptoSaid' is the law's where the arguments, and the package variables that the reading takes, are together of bulk at most 1048576: NARROWER than '..Said'. Prove '..Said' where nothing that the law and all that it calls make is longer than what came in: it says more and counts as full. Else prove '..UptoSaid'. A law counts once. -/
mutual
def uptoBulk {H : Type} : DataW H → Nat
  | .lit (.string bytes) => bytes.length + 1
  | .lit _ => 1
  | .nil => 1
  | .ptr d => uptoBulk d + 1
  | .slice elems spare => uptoBulkAll elems + uptoBulkAll spare + 1
  | .agg parts => uptoBulkAll parts + 1
  | .iface _ d => uptoBulk d + 1
  | .map entries => uptoBulkEntries entries + 1
  | .held _ => 1
def uptoBulkAll {H : Type} : List (DataW H) → Nat
  | [] => 0
  | d :: r => uptoBulk d + uptoBulkAll r
def uptoBulkEntries {H : Type} : List (Lit × DataW H) → Nat
  | [] => 0
  | x :: r => uptoBulkEntry x + uptoBulkEntries r
def uptoBulkEntry {H : Type} : Lit × DataW H → Nat
  | (.string bytes, d) => bytes.length + uptoBulk d + 1
  | (_, d) => uptoBulk d + 1
 end
def uptoSmall : (H : Type) → List (DataW H) → Bool := fun _ ds => decide (uptoBulkAll ds ≤ 1048576)
def OpenSpec.upto (s : _root_.Go.ChangeSpec) : _root_.Go.OpenSpec := { _root_.Go.OpenSpec.ofChange s with cond := some uptoSmall }

/-- 'wirelesslaw20.AcceptAdds', WHERE WHAT IT READS IS OF BULK AT MOST 1048576: true; the input reads as it did. -/
def acceptAddsUptoRow : OpenClaim := { program := "ytcpcakglnckpeaadoor", sum := "e165b362509d4f946efbb912e068981c1b007e62cfe28fa30ce2e0567e07ebd9", func := "wireless/wirelesslaw20.AcceptAdds", spec := "acceptAdds", unfollowed := true, recurses := true, named := ["wireless/address.prefixes"], apart := false, laid := [("wireless/address.prefixes", laid_wireless_address_prefixes)], narrowed := true }
def AcceptAddsUptoSaid : Prop := acceptAddsUptoRow.holds Tryd.pinned (OpenSpec.upto acceptAddsSpec)

/-- 'wirelesslaw20.AcceptRemoves', WHERE WHAT IT READS IS OF BULK AT MOST 1048576: true; the input reads as it did. -/
def acceptRemovesUptoRow : OpenClaim := { program := "ytcpcakglnckpeaadoor", sum := "e165b362509d4f946efbb912e068981c1b007e62cfe28fa30ce2e0567e07ebd9", func := "wireless/wirelesslaw20.AcceptRemoves", spec := "acceptRemoves", unfollowed := true, recurses := true, named := ["wireless/address.prefixes"], apart := false, laid := [("wireless/address.prefixes", laid_wireless_address_prefixes)], narrowed := true }
def AcceptRemovesUptoSaid : Prop := acceptRemovesUptoRow.holds Tryd.pinned (OpenSpec.upto acceptRemovesSpec)

/-- 'wirelesslaw20.AcceptHas', WHERE WHAT IT READS IS OF BULK AT MOST 1048576: true; the input reads as it did. -/
def acceptHasUptoRow : OpenClaim := { program := "ytcpcakglnckpeaadoor", sum := "e165b362509d4f946efbb912e068981c1b007e62cfe28fa30ce2e0567e07ebd9", func := "wireless/wirelesslaw20.AcceptHas", spec := "acceptHas", unfollowed := true, recurses := true, named := ["wireless/address.prefixes"], apart := false, laid := [("wireless/address.prefixes", laid_wireless_address_prefixes)], narrowed := true }
def AcceptHasUptoSaid : Prop := acceptHasUptoRow.holds Tryd.pinned (OpenSpec.upto acceptHasSpec)

/-- 'wirelesslaw20.AcceptAllows', WHERE WHAT IT READS IS OF BULK AT MOST 1048576: true; the input reads as it did. -/
def acceptAllowsUptoRow : OpenClaim := { program := "ytcpcakglnckpeaadoor", sum := "e165b362509d4f946efbb912e068981c1b007e62cfe28fa30ce2e0567e07ebd9", func := "wireless/wirelesslaw20.AcceptAllows", spec := "acceptAllows", unfollowed := true, recurses := true, named := ["wireless/address.prefixes"], apart := false, laid := [("wireless/address.prefixes", laid_wireless_address_prefixes)], narrowed := true }
def AcceptAllowsUptoSaid : Prop := acceptAllowsUptoRow.holds Tryd.pinned (OpenSpec.upto acceptAllowsSpec)

/-- 'wirelesslaw20.AcceptLists', WHERE WHAT IT READS IS OF BULK AT MOST 1048576: true; the input reads as it did. -/
def acceptListsUptoRow : OpenClaim := { program := "ytcpcakglnckpeaadoor", sum := "e165b362509d4f946efbb912e068981c1b007e62cfe28fa30ce2e0567e07ebd9", func := "wireless/wirelesslaw20.AcceptLists", spec := "acceptLists", unfollowed := true, recurses := true, named := ["wireless/address.prefixes"], apart := false, laid := [("wireless/address.prefixes", laid_wireless_address_prefixes)], narrowed := true }
def AcceptListsUptoSaid : Prop := acceptListsUptoRow.holds Tryd.pinned (OpenSpec.upto acceptListsSpec)

/-- 'wirelesslaw20.AcceptPolicies', WHERE WHAT IT READS IS OF BULK AT MOST 1048576: true; the input reads as it did. -/
def acceptPoliciesUptoRow : OpenClaim := { program := "ytcpcakglnckpeaadoor", sum := "e165b362509d4f946efbb912e068981c1b007e62cfe28fa30ce2e0567e07ebd9", func := "wireless/wirelesslaw20.AcceptPolicies", spec := "acceptPolicies", unfollowed := true, recurses := true, named := ["wireless/address.prefixes"], apart := false, laid := [("wireless/address.prefixes", laid_wireless_address_prefixes)], narrowed := true }
def AcceptPoliciesUptoSaid : Prop := acceptPoliciesUptoRow.holds Tryd.pinned (OpenSpec.upto acceptPoliciesSpec)

/-- 'wirelesslaw19.AdvpduChecks', WHERE WHAT IT READS IS OF BULK AT MOST 1048576: true; the input reads as it did. -/
def advpduChecksUptoRow : OpenClaim := { program := "ytcpcakglnckpeaadoor", sum := "e165b362509d4f946efbb912e068981c1b007e62cfe28fa30ce2e0567e07ebd9", func := "wireless/wirelesslaw19.AdvpduChecks", spec := "advpduChecks", unfollowed := true, recurses := true, named := ["wireless/address.prefixes"], apart := false, laid := [("wireless/address.prefixes", laid_wireless_address_prefixes)], narrowed := true }
def AdvpduChecksUptoSaid : Prop := advpduChecksUptoRow.holds Tryd.pinned (OpenSpec.upto advpduChecksSpec)

/-- 'wirelesslaw19.AdvpduEncodes', WHERE WHAT IT READS IS OF BULK AT MOST 1048576: true; the input reads as it did. -/
def advpduEncodesUptoRow : OpenClaim := { program := "ytcpcakglnckpeaadoor", sum := "e165b362509d4f946efbb912e068981c1b007e62cfe28fa30ce2e0567e07ebd9", func := "wireless/wirelesslaw19.AdvpduEncodes", spec := "advpduEncodes", unfollowed := true, recurses := true, named := ["wireless/address.prefixes"], apart := false, laid := [("wireless/address.prefixes", laid_wireless_address_prefixes)], narrowed := true }
def AdvpduEncodesUptoSaid : Prop := advpduEncodesUptoRow.holds Tryd.pinned (OpenSpec.upto advpduEncodesSpec)

/-- 'wirelesslaw19.AdvpduDecodes', WHERE WHAT IT READS IS OF BULK AT MOST 1048576: true; the input reads as it did. -/
def advpduDecodesUptoRow : OpenClaim := { program := "ytcpcakglnckpeaadoor", sum := "e165b362509d4f946efbb912e068981c1b007e62cfe28fa30ce2e0567e07ebd9", func := "wireless/wirelesslaw19.AdvpduDecodes", spec := "advpduDecodes", unfollowed := true, recurses := true, named := ["wireless/address.prefixes"], apart := false, laid := [("wireless/address.prefixes", laid_wireless_address_prefixes)], narrowed := true }
def AdvpduDecodesUptoSaid : Prop := advpduDecodesUptoRow.holds Tryd.pinned (OpenSpec.upto advpduDecodesSpec)

/-- 'wirelesslaw19.AdvpduKinds', WHERE WHAT IT READS IS OF BULK AT MOST 1048576: true; the input reads as it did. -/
def advpduKindsUptoRow : OpenClaim := { program := "ytcpcakglnckpeaadoor", sum := "e165b362509d4f946efbb912e068981c1b007e62cfe28fa30ce2e0567e07ebd9", func := "wireless/wirelesslaw19.AdvpduKinds", spec := "advpduKinds", unfollowed := true, recurses := true, named := ["wireless/address.prefixes"], apart := false, laid := [("wireless/address.prefixes", laid_wireless_address_prefixes)], narrowed := true }
def AdvpduKindsUptoSaid : Prop := advpduKindsUptoRow.holds Tryd.pinned (OpenSpec.upto advpduKindsSpec)

/-- 'wirelesslaw19.AdvpduBack', WHERE WHAT IT READS IS OF BULK AT MOST 1048576: true; the input reads as it did. -/
def advpduBackUptoRow : OpenClaim := { program := "ytcpcakglnckpeaadoor", sum := "e165b362509d4f946efbb912e068981c1b007e62cfe28fa30ce2e0567e07ebd9", func := "wireless/wirelesslaw19.AdvpduBack", spec := "advpduBack", unfollowed := true, recurses := true, named := ["wireless/address.prefixes"], apart := false, laid := [("wireless/address.prefixes", laid_wireless_address_prefixes)], narrowed := true }
def AdvpduBackUptoSaid : Prop := advpduBackUptoRow.holds Tryd.pinned (OpenSpec.upto advpduBackSpec)

/-- 'wirelesslaw19.AdvpduLengths', WHERE WHAT IT READS IS OF BULK AT MOST 1048576: true; the input reads as it did. -/
def advpduLengthsUptoRow : OpenClaim := { program := "ytcpcakglnckpeaadoor", sum := "e165b362509d4f946efbb912e068981c1b007e62cfe28fa30ce2e0567e07ebd9", func := "wireless/wirelesslaw19.AdvpduLengths", spec := "advpduLengths", unfollowed := true, recurses := true, named := ["wireless/address.prefixes"], apart := false, laid := [("wireless/address.prefixes", laid_wireless_address_prefixes)], narrowed := true }
def AdvpduLengthsUptoSaid : Prop := advpduLengthsUptoRow.holds Tryd.pinned (OpenSpec.upto advpduLengthsSpec)

end Rows
end Go.Proofs.YtcpcakglnckpeaaDoor
