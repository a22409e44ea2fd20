/-
  DERIVED. GIVEN WITH THE SEED: THE CARDS: each row of YtaoadiciclopbaaDoorRows.lean that lists a variable, with what it lists TIED to the program's text (the seventh form; the later family's looks); each row that meets fmt, with fmt's text TOLD by the authors' own Lean function (tested against real Go, not proved from fmt's source: count such statements apart). THE CARD IS WHAT COUNTS. Prove the row's statement (the work); the ties are given (YtaoadiciclopbaaDoorTie.lean); close each card by the builder's one call (the guide's Derived/Test/ToyasCard.lean, 'card_holds'). Laid BY PROGRAM, IN A SANDBOX (cutbox-door.mjs). By AI agents, Wed Nov 11 2026. No macro, syntax, notation, axiom, sorry.
-/
import Derived.Test.YtaoadiciclopbaaDoorRows
import GoSem.ClaimSeven
namespace Go.Proofs.YtaoadiciclopbaaDoor
namespace Rows

/-- THE TIED CARD OF 'wirelesslaw09.PrivacyMakes'. -/
def privacyMakesCard : Claim7 := { stood := { row := privacyMakesRow, standIns := [], harness := (true, "98118fc804b56ee35a8ef6fe1366833732179d3de707ea4301d261f2f542986e"), looks := false }, kinds := [], alts := [], laidByText := true, laidKinds := [.data], laidTests := true, laidLooks := .later }
def PrivacyMakesCardSaid : Prop := Claim7.holds Tryd.pinned (.plain (OpenSpec.ofChange privacyMakesSpec)) privacyMakesCard

/-- THE TIED CARD OF 'wirelesslaw09.PrivacyResolves'. -/
def privacyResolvesCard : Claim7 := { stood := { row := privacyResolvesRow, standIns := [], harness := (true, "98118fc804b56ee35a8ef6fe1366833732179d3de707ea4301d261f2f542986e"), looks := false }, kinds := [], alts := [], laidByText := true, laidKinds := [.data], laidTests := true, laidLooks := .later }
def PrivacyResolvesCardSaid : Prop := Claim7.holds Tryd.pinned (.plain (OpenSpec.ofChange privacyResolvesSpec)) privacyResolvesCard

/-- THE TIED CARD OF 'wirelesslaw09.PrivacyOwn'. -/
def privacyOwnCard : Claim7 := { stood := { row := privacyOwnRow, standIns := [], harness := (true, "98118fc804b56ee35a8ef6fe1366833732179d3de707ea4301d261f2f542986e"), looks := false }, kinds := [], alts := [], laidByText := true, laidKinds := [.data], laidTests := true, laidLooks := .later }
def PrivacyOwnCardSaid : Prop := Claim7.holds Tryd.pinned (.plain (OpenSpec.ofChange privacyOwnSpec)) privacyOwnCard

/-- THE TIED CARD OF 'wirelesslaw09.PrivacySearches'. -/
def privacySearchesCard : Claim7 := { stood := { row := privacySearchesRow, standIns := [], harness := (true, "98118fc804b56ee35a8ef6fe1366833732179d3de707ea4301d261f2f542986e"), looks := false }, kinds := [], alts := [], laidByText := true, laidKinds := [.data], laidTests := true, laidLooks := .later }
def PrivacySearchesCardSaid : Prop := Claim7.holds Tryd.pinned (.plain (OpenSpec.ofChange privacySearchesSpec)) privacySearchesCard

/-- THE TIED CARD OF 'wirelesslaw09.PrivacyPeriods'. -/
def privacyPeriodsCard : Claim7 := { stood := { row := privacyPeriodsRow, standIns := [], harness := (true, "98118fc804b56ee35a8ef6fe1366833732179d3de707ea4301d261f2f542986e"), looks := false }, kinds := [], alts := [], laidByText := true, laidKinds := [.data], laidTests := true, laidLooks := .later }
def PrivacyPeriodsCardSaid : Prop := Claim7.holds Tryd.pinned (.plain (OpenSpec.ofChange privacyPeriodsSpec)) privacyPeriodsCard

/-- THE TIED CARD OF 'wirelesslaw09.PrivacyFinds'. -/
def privacyFindsCard : Claim7 := { stood := { row := privacyFindsRow, standIns := [], harness := (true, "98118fc804b56ee35a8ef6fe1366833732179d3de707ea4301d261f2f542986e"), looks := false }, kinds := [], alts := [], laidByText := true, laidKinds := [.data], laidTests := true, laidLooks := .later }
def PrivacyFindsCardSaid : Prop := Claim7.holds Tryd.pinned (.plain (OpenSpec.ofChange privacyFindsSpec)) privacyFindsCard

/-- THE TIED CARD OF 'wirelesslaw09.PrivacyConstant'. -/
def privacyConstantCard : Claim7 := { stood := { row := privacyConstantRow, standIns := [], harness := (true, "98118fc804b56ee35a8ef6fe1366833732179d3de707ea4301d261f2f542986e"), looks := false }, kinds := [], alts := [], laidByText := true, laidKinds := [.data], laidTests := true, laidLooks := .later }
def PrivacyConstantCardSaid : Prop := Claim7.holds Tryd.pinned (.plain (OpenSpec.ofChange privacyConstantSpec)) privacyConstantCard

/-- THE SECOND FORM's CARD OF 'wirelesslaw09.PrivacyMakes'. -/
def privacyMakesUptoCard : Claim7 := { stood := { row := privacyMakesUptoRow, standIns := [], harness := (true, "98118fc804b56ee35a8ef6fe1366833732179d3de707ea4301d261f2f542986e"), looks := false }, kinds := [], alts := [], laidByText := true, laidKinds := [.data], laidTests := true, laidLooks := .later }
def PrivacyMakesUptoCardSaid : Prop := Claim7.holds Tryd.pinned (.plain (OpenSpec.upto privacyMakesSpec)) privacyMakesUptoCard

/-- THE SECOND FORM's CARD OF 'wirelesslaw09.PrivacyResolves'. -/
def privacyResolvesUptoCard : Claim7 := { stood := { row := privacyResolvesUptoRow, standIns := [], harness := (true, "98118fc804b56ee35a8ef6fe1366833732179d3de707ea4301d261f2f542986e"), looks := false }, kinds := [], alts := [], laidByText := true, laidKinds := [.data], laidTests := true, laidLooks := .later }
def PrivacyResolvesUptoCardSaid : Prop := Claim7.holds Tryd.pinned (.plain (OpenSpec.upto privacyResolvesSpec)) privacyResolvesUptoCard

/-- THE SECOND FORM's CARD OF 'wirelesslaw09.PrivacyOwn'. -/
def privacyOwnUptoCard : Claim7 := { stood := { row := privacyOwnUptoRow, standIns := [], harness := (true, "98118fc804b56ee35a8ef6fe1366833732179d3de707ea4301d261f2f542986e"), looks := false }, kinds := [], alts := [], laidByText := true, laidKinds := [.data], laidTests := true, laidLooks := .later }
def PrivacyOwnUptoCardSaid : Prop := Claim7.holds Tryd.pinned (.plain (OpenSpec.upto privacyOwnSpec)) privacyOwnUptoCard

/-- THE SECOND FORM's CARD OF 'wirelesslaw09.PrivacySearches'. -/
def privacySearchesUptoCard : Claim7 := { stood := { row := privacySearchesUptoRow, standIns := [], harness := (true, "98118fc804b56ee35a8ef6fe1366833732179d3de707ea4301d261f2f542986e"), looks := false }, kinds := [], alts := [], laidByText := true, laidKinds := [.data], laidTests := true, laidLooks := .later }
def PrivacySearchesUptoCardSaid : Prop := Claim7.holds Tryd.pinned (.plain (OpenSpec.upto privacySearchesSpec)) privacySearchesUptoCard

/-- THE SECOND FORM's CARD OF 'wirelesslaw09.PrivacyPeriods'. -/
def privacyPeriodsUptoCard : Claim7 := { stood := { row := privacyPeriodsUptoRow, standIns := [], harness := (true, "98118fc804b56ee35a8ef6fe1366833732179d3de707ea4301d261f2f542986e"), looks := false }, kinds := [], alts := [], laidByText := true, laidKinds := [.data], laidTests := true, laidLooks := .later }
def PrivacyPeriodsUptoCardSaid : Prop := Claim7.holds Tryd.pinned (.plain (OpenSpec.upto privacyPeriodsSpec)) privacyPeriodsUptoCard

/-- THE SECOND FORM's CARD OF 'wirelesslaw09.PrivacyFinds'. -/
def privacyFindsUptoCard : Claim7 := { stood := { row := privacyFindsUptoRow, standIns := [], harness := (true, "98118fc804b56ee35a8ef6fe1366833732179d3de707ea4301d261f2f542986e"), looks := false }, kinds := [], alts := [], laidByText := true, laidKinds := [.data], laidTests := true, laidLooks := .later }
def PrivacyFindsUptoCardSaid : Prop := Claim7.holds Tryd.pinned (.plain (OpenSpec.upto privacyFindsSpec)) privacyFindsUptoCard

/-- THE SECOND FORM's CARD OF 'wirelesslaw09.PrivacyConstant'. -/
def privacyConstantUptoCard : Claim7 := { stood := { row := privacyConstantUptoRow, standIns := [], harness := (true, "98118fc804b56ee35a8ef6fe1366833732179d3de707ea4301d261f2f542986e"), looks := false }, kinds := [], alts := [], laidByText := true, laidKinds := [.data], laidTests := true, laidLooks := .later }
def PrivacyConstantUptoCardSaid : Prop := Claim7.holds Tryd.pinned (.plain (OpenSpec.upto privacyConstantSpec)) privacyConstantUptoCard
end Rows
end Go.Proofs.YtaoadiciclopbaaDoor
