/-
  DERIVED. GIVEN WITH THE SEED: THE CARDS: each row of YtcpcakglnckpeaaDoorRows.lean that lists a variable, with what it lists TIED to the program's text (the seventh form; the later family's looks); each row that meets fmt, with fmt's text TOLD by the authors' own Lean function (tested against real Go, not proved from fmt's source: count such statements apart). THE CARD IS WHAT COUNTS. Prove the row's statement (the work); the ties are given (YtcpcakglnckpeaaDoorTie.lean); close each card by the builder's one call (the guide's Derived/Test/ToyasCard.lean, 'card_holds'). Laid BY PROGRAM, IN A SANDBOX (cutbox-door.mjs). By AI agents, Wed Nov 11 2026. No macro, syntax, notation, axiom, sorry.
-/
import Derived.Test.YtcpcakglnckpeaaDoorRows
import GoSem.ClaimSeven
namespace Go.Proofs.YtcpcakglnckpeaaDoor
namespace Rows

/-- THE TIED CARD OF 'wirelesslaw20.AcceptAdds'. -/
def acceptAddsCard : Claim7 := { stood := { row := acceptAddsRow, standIns := [], harness := (true, "d604aeb0f80d1c8e4f0c6463230a3f226d930e468b5da6b51a0a3157da966249"), looks := false }, kinds := [], alts := [], laidByText := true, laidKinds := [.data], laidTests := true, laidLooks := .later }
def AcceptAddsCardSaid : Prop := Claim7.holds Tryd.pinned (.plain (OpenSpec.ofChange acceptAddsSpec)) acceptAddsCard

/-- THE TIED CARD OF 'wirelesslaw20.AcceptRemoves'. -/
def acceptRemovesCard : Claim7 := { stood := { row := acceptRemovesRow, standIns := [], harness := (true, "d604aeb0f80d1c8e4f0c6463230a3f226d930e468b5da6b51a0a3157da966249"), looks := false }, kinds := [], alts := [], laidByText := true, laidKinds := [.data], laidTests := true, laidLooks := .later }
def AcceptRemovesCardSaid : Prop := Claim7.holds Tryd.pinned (.plain (OpenSpec.ofChange acceptRemovesSpec)) acceptRemovesCard

/-- THE TIED CARD OF 'wirelesslaw20.AcceptHas'. -/
def acceptHasCard : Claim7 := { stood := { row := acceptHasRow, standIns := [], harness := (true, "d604aeb0f80d1c8e4f0c6463230a3f226d930e468b5da6b51a0a3157da966249"), looks := false }, kinds := [], alts := [], laidByText := true, laidKinds := [.data], laidTests := true, laidLooks := .later }
def AcceptHasCardSaid : Prop := Claim7.holds Tryd.pinned (.plain (OpenSpec.ofChange acceptHasSpec)) acceptHasCard

/-- THE TIED CARD OF 'wirelesslaw20.AcceptAllows'. -/
def acceptAllowsCard : Claim7 := { stood := { row := acceptAllowsRow, standIns := [], harness := (true, "d604aeb0f80d1c8e4f0c6463230a3f226d930e468b5da6b51a0a3157da966249"), looks := false }, kinds := [], alts := [], laidByText := true, laidKinds := [.data], laidTests := true, laidLooks := .later }
def AcceptAllowsCardSaid : Prop := Claim7.holds Tryd.pinned (.plain (OpenSpec.ofChange acceptAllowsSpec)) acceptAllowsCard

/-- THE TIED CARD OF 'wirelesslaw20.AcceptLists'. -/
def acceptListsCard : Claim7 := { stood := { row := acceptListsRow, standIns := [], harness := (true, "d604aeb0f80d1c8e4f0c6463230a3f226d930e468b5da6b51a0a3157da966249"), looks := false }, kinds := [], alts := [], laidByText := true, laidKinds := [.data], laidTests := true, laidLooks := .later }
def AcceptListsCardSaid : Prop := Claim7.holds Tryd.pinned (.plain (OpenSpec.ofChange acceptListsSpec)) acceptListsCard

/-- THE TIED CARD OF 'wirelesslaw20.AcceptPolicies'. -/
def acceptPoliciesCard : Claim7 := { stood := { row := acceptPoliciesRow, standIns := [], harness := (true, "d604aeb0f80d1c8e4f0c6463230a3f226d930e468b5da6b51a0a3157da966249"), looks := false }, kinds := [], alts := [], laidByText := true, laidKinds := [.data], laidTests := true, laidLooks := .later }
def AcceptPoliciesCardSaid : Prop := Claim7.holds Tryd.pinned (.plain (OpenSpec.ofChange acceptPoliciesSpec)) acceptPoliciesCard

/-- THE TIED CARD OF 'wirelesslaw19.AdvpduChecks'. -/
def advpduChecksCard : Claim7 := { stood := { row := advpduChecksRow, standIns := [], harness := (true, "d604aeb0f80d1c8e4f0c6463230a3f226d930e468b5da6b51a0a3157da966249"), looks := false }, kinds := [], alts := [], laidByText := true, laidKinds := [.data], laidTests := true, laidLooks := .later }
def AdvpduChecksCardSaid : Prop := Claim7.holds Tryd.pinned (.plain (OpenSpec.ofChange advpduChecksSpec)) advpduChecksCard

/-- THE TIED CARD OF 'wirelesslaw19.AdvpduEncodes'. -/
def advpduEncodesCard : Claim7 := { stood := { row := advpduEncodesRow, standIns := [], harness := (true, "d604aeb0f80d1c8e4f0c6463230a3f226d930e468b5da6b51a0a3157da966249"), looks := false }, kinds := [], alts := [], laidByText := true, laidKinds := [.data], laidTests := true, laidLooks := .later }
def AdvpduEncodesCardSaid : Prop := Claim7.holds Tryd.pinned (.plain (OpenSpec.ofChange advpduEncodesSpec)) advpduEncodesCard

/-- THE TIED CARD OF 'wirelesslaw19.AdvpduDecodes'. -/
def advpduDecodesCard : Claim7 := { stood := { row := advpduDecodesRow, standIns := [], harness := (true, "d604aeb0f80d1c8e4f0c6463230a3f226d930e468b5da6b51a0a3157da966249"), looks := false }, kinds := [], alts := [], laidByText := true, laidKinds := [.data], laidTests := true, laidLooks := .later }
def AdvpduDecodesCardSaid : Prop := Claim7.holds Tryd.pinned (.plain (OpenSpec.ofChange advpduDecodesSpec)) advpduDecodesCard

/-- THE TIED CARD OF 'wirelesslaw19.AdvpduKinds'. -/
def advpduKindsCard : Claim7 := { stood := { row := advpduKindsRow, standIns := [], harness := (true, "d604aeb0f80d1c8e4f0c6463230a3f226d930e468b5da6b51a0a3157da966249"), looks := false }, kinds := [], alts := [], laidByText := true, laidKinds := [.data], laidTests := true, laidLooks := .later }
def AdvpduKindsCardSaid : Prop := Claim7.holds Tryd.pinned (.plain (OpenSpec.ofChange advpduKindsSpec)) advpduKindsCard

/-- THE TIED CARD OF 'wirelesslaw19.AdvpduBack'. -/
def advpduBackCard : Claim7 := { stood := { row := advpduBackRow, standIns := [], harness := (true, "d604aeb0f80d1c8e4f0c6463230a3f226d930e468b5da6b51a0a3157da966249"), looks := false }, kinds := [], alts := [], laidByText := true, laidKinds := [.data], laidTests := true, laidLooks := .later }
def AdvpduBackCardSaid : Prop := Claim7.holds Tryd.pinned (.plain (OpenSpec.ofChange advpduBackSpec)) advpduBackCard

/-- THE TIED CARD OF 'wirelesslaw19.AdvpduLengths'. -/
def advpduLengthsCard : Claim7 := { stood := { row := advpduLengthsRow, standIns := [], harness := (true, "d604aeb0f80d1c8e4f0c6463230a3f226d930e468b5da6b51a0a3157da966249"), looks := false }, kinds := [], alts := [], laidByText := true, laidKinds := [.data], laidTests := true, laidLooks := .later }
def AdvpduLengthsCardSaid : Prop := Claim7.holds Tryd.pinned (.plain (OpenSpec.ofChange advpduLengthsSpec)) advpduLengthsCard

/-- THE SECOND FORM's CARD OF 'wirelesslaw20.AcceptAdds'. -/
def acceptAddsUptoCard : Claim7 := { stood := { row := acceptAddsUptoRow, standIns := [], harness := (true, "d604aeb0f80d1c8e4f0c6463230a3f226d930e468b5da6b51a0a3157da966249"), looks := false }, kinds := [], alts := [], laidByText := true, laidKinds := [.data], laidTests := true, laidLooks := .later }
def AcceptAddsUptoCardSaid : Prop := Claim7.holds Tryd.pinned (.plain (OpenSpec.upto acceptAddsSpec)) acceptAddsUptoCard

/-- THE SECOND FORM's CARD OF 'wirelesslaw20.AcceptRemoves'. -/
def acceptRemovesUptoCard : Claim7 := { stood := { row := acceptRemovesUptoRow, standIns := [], harness := (true, "d604aeb0f80d1c8e4f0c6463230a3f226d930e468b5da6b51a0a3157da966249"), looks := false }, kinds := [], alts := [], laidByText := true, laidKinds := [.data], laidTests := true, laidLooks := .later }
def AcceptRemovesUptoCardSaid : Prop := Claim7.holds Tryd.pinned (.plain (OpenSpec.upto acceptRemovesSpec)) acceptRemovesUptoCard

/-- THE SECOND FORM's CARD OF 'wirelesslaw20.AcceptHas'. -/
def acceptHasUptoCard : Claim7 := { stood := { row := acceptHasUptoRow, standIns := [], harness := (true, "d604aeb0f80d1c8e4f0c6463230a3f226d930e468b5da6b51a0a3157da966249"), looks := false }, kinds := [], alts := [], laidByText := true, laidKinds := [.data], laidTests := true, laidLooks := .later }
def AcceptHasUptoCardSaid : Prop := Claim7.holds Tryd.pinned (.plain (OpenSpec.upto acceptHasSpec)) acceptHasUptoCard

/-- THE SECOND FORM's CARD OF 'wirelesslaw20.AcceptAllows'. -/
def acceptAllowsUptoCard : Claim7 := { stood := { row := acceptAllowsUptoRow, standIns := [], harness := (true, "d604aeb0f80d1c8e4f0c6463230a3f226d930e468b5da6b51a0a3157da966249"), looks := false }, kinds := [], alts := [], laidByText := true, laidKinds := [.data], laidTests := true, laidLooks := .later }
def AcceptAllowsUptoCardSaid : Prop := Claim7.holds Tryd.pinned (.plain (OpenSpec.upto acceptAllowsSpec)) acceptAllowsUptoCard

/-- THE SECOND FORM's CARD OF 'wirelesslaw20.AcceptLists'. -/
def acceptListsUptoCard : Claim7 := { stood := { row := acceptListsUptoRow, standIns := [], harness := (true, "d604aeb0f80d1c8e4f0c6463230a3f226d930e468b5da6b51a0a3157da966249"), looks := false }, kinds := [], alts := [], laidByText := true, laidKinds := [.data], laidTests := true, laidLooks := .later }
def AcceptListsUptoCardSaid : Prop := Claim7.holds Tryd.pinned (.plain (OpenSpec.upto acceptListsSpec)) acceptListsUptoCard

/-- THE SECOND FORM's CARD OF 'wirelesslaw20.AcceptPolicies'. -/
def acceptPoliciesUptoCard : Claim7 := { stood := { row := acceptPoliciesUptoRow, standIns := [], harness := (true, "d604aeb0f80d1c8e4f0c6463230a3f226d930e468b5da6b51a0a3157da966249"), looks := false }, kinds := [], alts := [], laidByText := true, laidKinds := [.data], laidTests := true, laidLooks := .later }
def AcceptPoliciesUptoCardSaid : Prop := Claim7.holds Tryd.pinned (.plain (OpenSpec.upto acceptPoliciesSpec)) acceptPoliciesUptoCard

/-- THE SECOND FORM's CARD OF 'wirelesslaw19.AdvpduChecks'. -/
def advpduChecksUptoCard : Claim7 := { stood := { row := advpduChecksUptoRow, standIns := [], harness := (true, "d604aeb0f80d1c8e4f0c6463230a3f226d930e468b5da6b51a0a3157da966249"), looks := false }, kinds := [], alts := [], laidByText := true, laidKinds := [.data], laidTests := true, laidLooks := .later }
def AdvpduChecksUptoCardSaid : Prop := Claim7.holds Tryd.pinned (.plain (OpenSpec.upto advpduChecksSpec)) advpduChecksUptoCard

/-- THE SECOND FORM's CARD OF 'wirelesslaw19.AdvpduEncodes'. -/
def advpduEncodesUptoCard : Claim7 := { stood := { row := advpduEncodesUptoRow, standIns := [], harness := (true, "d604aeb0f80d1c8e4f0c6463230a3f226d930e468b5da6b51a0a3157da966249"), looks := false }, kinds := [], alts := [], laidByText := true, laidKinds := [.data], laidTests := true, laidLooks := .later }
def AdvpduEncodesUptoCardSaid : Prop := Claim7.holds Tryd.pinned (.plain (OpenSpec.upto advpduEncodesSpec)) advpduEncodesUptoCard

/-- THE SECOND FORM's CARD OF 'wirelesslaw19.AdvpduDecodes'. -/
def advpduDecodesUptoCard : Claim7 := { stood := { row := advpduDecodesUptoRow, standIns := [], harness := (true, "d604aeb0f80d1c8e4f0c6463230a3f226d930e468b5da6b51a0a3157da966249"), looks := false }, kinds := [], alts := [], laidByText := true, laidKinds := [.data], laidTests := true, laidLooks := .later }
def AdvpduDecodesUptoCardSaid : Prop := Claim7.holds Tryd.pinned (.plain (OpenSpec.upto advpduDecodesSpec)) advpduDecodesUptoCard

/-- THE SECOND FORM's CARD OF 'wirelesslaw19.AdvpduKinds'. -/
def advpduKindsUptoCard : Claim7 := { stood := { row := advpduKindsUptoRow, standIns := [], harness := (true, "d604aeb0f80d1c8e4f0c6463230a3f226d930e468b5da6b51a0a3157da966249"), looks := false }, kinds := [], alts := [], laidByText := true, laidKinds := [.data], laidTests := true, laidLooks := .later }
def AdvpduKindsUptoCardSaid : Prop := Claim7.holds Tryd.pinned (.plain (OpenSpec.upto advpduKindsSpec)) advpduKindsUptoCard

/-- THE SECOND FORM's CARD OF 'wirelesslaw19.AdvpduBack'. -/
def advpduBackUptoCard : Claim7 := { stood := { row := advpduBackUptoRow, standIns := [], harness := (true, "d604aeb0f80d1c8e4f0c6463230a3f226d930e468b5da6b51a0a3157da966249"), looks := false }, kinds := [], alts := [], laidByText := true, laidKinds := [.data], laidTests := true, laidLooks := .later }
def AdvpduBackUptoCardSaid : Prop := Claim7.holds Tryd.pinned (.plain (OpenSpec.upto advpduBackSpec)) advpduBackUptoCard

/-- THE SECOND FORM's CARD OF 'wirelesslaw19.AdvpduLengths'. -/
def advpduLengthsUptoCard : Claim7 := { stood := { row := advpduLengthsUptoRow, standIns := [], harness := (true, "d604aeb0f80d1c8e4f0c6463230a3f226d930e468b5da6b51a0a3157da966249"), looks := false }, kinds := [], alts := [], laidByText := true, laidKinds := [.data], laidTests := true, laidLooks := .later }
def AdvpduLengthsUptoCardSaid : Prop := Claim7.holds Tryd.pinned (.plain (OpenSpec.upto advpduLengthsSpec)) advpduLengthsUptoCard
end Rows
end Go.Proofs.YtcpcakglnckpeaaDoor
