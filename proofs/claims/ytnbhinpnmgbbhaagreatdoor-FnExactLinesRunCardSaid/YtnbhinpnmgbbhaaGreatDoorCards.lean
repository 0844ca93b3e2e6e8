/-
  DERIVED. GIVEN WITH THE SEED: THE CARDS: each row of YtnbhinpnmgbbhaaGreatDoorRows.lean that lists a variable, with what it lists TIED to the program's text (the seventh form; the later family's looks); each row that meets fmt, with fmt's text TOLD by the authors' own Lean function (tested against real Go, not proved from fmt's source: count such statements apart). THE CARD IS WHAT COUNTS. Prove the row's statement (the work); the ties are given (YtnbhinpnmgbbhaaGreatDoorTie.lean); close each card by the builder's one call (the guide's Derived/Test/ToyasCard.lean, 'card_holds'). Laid BY PROGRAM, IN A SANDBOX (cutbox-door.mjs). By AI agents, Wed Nov 11 2026. No macro, syntax, notation, axiom, sorry.
-/
import Derived.Test.YtnbhinpnmgbbhaaGreatDoorRows
import GoSem.ClaimSeven
namespace Go.Proofs.YtnbhinpnmgbbhaaGreatDoor
namespace Rows

/-- THE TIED CARD OF 'laws.FnLinesSteps'. -/
def fnLinesStepsCard : Claim7 := { stood := { row := fnLinesStepsRow, standIns := [], harness := (true, "90b4ebd20bc5108c07d469a11527756e776b88e51ea502c6222d269f2ada4b91"), looks := true }, kinds := [], alts := [], laidByText := true, laidKinds := [.data, .data, .data, .data, .sentinel, .sentinel, .pinned], laidTests := true, laidLooks := .later }
def FnLinesStepsCardSaid : Prop := Claim7.holds Tryz.pinned (.plain (OpenSpec.ofChange fnLinesStepsSpec)) fnLinesStepsCard

/-- THE TIED CARD OF 'laws.FnLinesTwo'. -/
def fnLinesTwoCard : Claim7 := { stood := { row := fnLinesTwoRow, standIns := [], harness := (true, "90b4ebd20bc5108c07d469a11527756e776b88e51ea502c6222d269f2ada4b91"), looks := true }, kinds := [], alts := [], laidByText := true, laidKinds := [.data, .data, .data, .data, .sentinel, .sentinel, .pinned], laidTests := true, laidLooks := .later }
def FnLinesTwoCardSaid : Prop := Claim7.holds Tryz.pinned (.plain (OpenSpec.ofChange fnLinesTwoSpec)) fnLinesTwoCard

/-- THE TIED CARD OF 'laws.FnLinesWords'. -/
def fnLinesWordsCard : Claim7 := { stood := { row := fnLinesWordsRow, standIns := [], harness := (true, "90b4ebd20bc5108c07d469a11527756e776b88e51ea502c6222d269f2ada4b91"), looks := true }, kinds := [], alts := [], laidByText := true, laidKinds := [.data, .data, .data, .data, .sentinel, .sentinel, .pinned], laidTests := true, laidLooks := .later }
def FnLinesWordsCardSaid : Prop := Claim7.holds Tryz.pinned (.plain (OpenSpec.ofChange fnLinesWordsSpec)) fnLinesWordsCard

/-- THE TIED CARD OF 'laws.FnExactLinesRun'. -/
def fnExactLinesRunCard : Claim7 := { stood := { row := fnExactLinesRunRow, standIns := [], harness := (true, "90b4ebd20bc5108c07d469a11527756e776b88e51ea502c6222d269f2ada4b91"), looks := true }, kinds := [], alts := [], laidByText := true, laidKinds := [.data, .data, .data, .data, .sentinel, .sentinel, .pinned], laidTests := true, laidLooks := .later }
def FnExactLinesRunCardSaid : Prop := Claim7.holds Tryz.pinned (.plain (OpenSpec.ofChange fnExactLinesRunSpec)) fnExactLinesRunCard

/-- THE TIED CARD OF 'laws.FnLinesCalm'. -/
def fnLinesCalmCard : Claim7 := { stood := { row := fnLinesCalmRow, standIns := [], harness := (true, "90b4ebd20bc5108c07d469a11527756e776b88e51ea502c6222d269f2ada4b91"), looks := true }, kinds := [], alts := [], laidByText := true, laidKinds := [.data, .data, .data, .data, .sentinel, .sentinel, .pinned], laidTests := true, laidLooks := .later }
def FnLinesCalmCardSaid : Prop := Claim7.holds Tryz.pinned (.plain (OpenSpec.ofChange fnLinesCalmSpec)) fnLinesCalmCard

/-- THE TIED CARD OF 'laws.FnLinesDouble'. -/
def fnLinesDoubleCard : Claim7 := { stood := { row := fnLinesDoubleRow, standIns := [], harness := (true, "90b4ebd20bc5108c07d469a11527756e776b88e51ea502c6222d269f2ada4b91"), looks := true }, kinds := [], alts := [], laidByText := true, laidKinds := [.data, .data, .data, .data, .sentinel, .sentinel, .pinned], laidTests := true, laidLooks := .later }
def FnLinesDoubleCardSaid : Prop := Claim7.holds Tryz.pinned (.plain (OpenSpec.ofChange fnLinesDoubleSpec)) fnLinesDoubleCard

/-- THE TIED CARD OF 'laws.FnLinesFall'. -/
def fnLinesFallCard : Claim7 := { stood := { row := fnLinesFallRow, standIns := [], harness := (true, "90b4ebd20bc5108c07d469a11527756e776b88e51ea502c6222d269f2ada4b91"), looks := true }, kinds := [], alts := [], laidByText := true, laidKinds := [.data, .data, .data, .data, .sentinel, .sentinel, .pinned], laidTests := true, laidLooks := .later }
def FnLinesFallCardSaid : Prop := Claim7.holds Tryz.pinned (.plain (OpenSpec.ofChange fnLinesFallSpec)) fnLinesFallCard

/-- THE TIED CARD OF 'laws.FnLinesGive'. -/
def fnLinesGiveCard : Claim7 := { stood := { row := fnLinesGiveRow, standIns := [], harness := (true, "90b4ebd20bc5108c07d469a11527756e776b88e51ea502c6222d269f2ada4b91"), looks := true }, kinds := [], alts := [], laidByText := true, laidKinds := [.data, .data, .data, .data, .sentinel, .sentinel, .pinned], laidTests := true, laidLooks := .later }
def FnLinesGiveCardSaid : Prop := Claim7.holds Tryz.pinned (.plain (OpenSpec.ofChange fnLinesGiveSpec)) fnLinesGiveCard

/-- THE TIED CARD OF 'laws.FnLinesNone'. -/
def fnLinesNoneCard : Claim7 := { stood := { row := fnLinesNoneRow, standIns := [], harness := (true, "90b4ebd20bc5108c07d469a11527756e776b88e51ea502c6222d269f2ada4b91"), looks := true }, kinds := [], alts := [], laidByText := true, laidKinds := [.data, .data, .data, .data, .sentinel, .sentinel, .pinned], laidTests := true, laidLooks := .later }
def FnLinesNoneCardSaid : Prop := Claim7.holds Tryz.pinned (.plain (OpenSpec.ofChange fnLinesNoneSpec)) fnLinesNoneCard

/-- THE TIED CARD OF 'laws.FnLinesQuiet'. -/
def fnLinesQuietCard : Claim7 := { stood := { row := fnLinesQuietRow, standIns := [], harness := (true, "90b4ebd20bc5108c07d469a11527756e776b88e51ea502c6222d269f2ada4b91"), looks := true }, kinds := [], alts := [], laidByText := true, laidKinds := [.data, .data, .data, .data, .sentinel, .sentinel, .pinned], laidTests := true, laidLooks := .later }
def FnLinesQuietCardSaid : Prop := Claim7.holds Tryz.pinned (.plain (OpenSpec.ofChange fnLinesQuietSpec)) fnLinesQuietCard

/-- THE TIED CARD OF 'laws.FnLinesRun'. -/
def fnLinesRunCard : Claim7 := { stood := { row := fnLinesRunRow, standIns := [], harness := (true, "90b4ebd20bc5108c07d469a11527756e776b88e51ea502c6222d269f2ada4b91"), looks := true }, kinds := [], alts := [], laidByText := true, laidKinds := [.data, .data, .data, .data, .sentinel, .sentinel, .pinned], laidTests := true, laidLooks := .later }
def FnLinesRunCardSaid : Prop := Claim7.holds Tryz.pinned (.plain (OpenSpec.ofChange fnLinesRunSpec)) fnLinesRunCard

/-- THE SECOND FORM's CARD OF 'laws.FnLinesSteps'. -/
def fnLinesStepsUptoCard : Claim7 := { stood := { row := fnLinesStepsUptoRow, standIns := [], harness := (true, "90b4ebd20bc5108c07d469a11527756e776b88e51ea502c6222d269f2ada4b91"), looks := true }, kinds := [], alts := [], laidByText := true, laidKinds := [.data, .data, .data, .data, .sentinel, .sentinel, .pinned], laidTests := true, laidLooks := .later }
def FnLinesStepsUptoCardSaid : Prop := Claim7.holds Tryz.pinned (.plain (OpenSpec.upto fnLinesStepsSpec)) fnLinesStepsUptoCard

/-- THE SECOND FORM's CARD OF 'laws.FnLinesTwo'. -/
def fnLinesTwoUptoCard : Claim7 := { stood := { row := fnLinesTwoUptoRow, standIns := [], harness := (true, "90b4ebd20bc5108c07d469a11527756e776b88e51ea502c6222d269f2ada4b91"), looks := true }, kinds := [], alts := [], laidByText := true, laidKinds := [.data, .data, .data, .data, .sentinel, .sentinel, .pinned], laidTests := true, laidLooks := .later }
def FnLinesTwoUptoCardSaid : Prop := Claim7.holds Tryz.pinned (.plain (OpenSpec.upto fnLinesTwoSpec)) fnLinesTwoUptoCard

/-- THE SECOND FORM's CARD OF 'laws.FnLinesWords'. -/
def fnLinesWordsUptoCard : Claim7 := { stood := { row := fnLinesWordsUptoRow, standIns := [], harness := (true, "90b4ebd20bc5108c07d469a11527756e776b88e51ea502c6222d269f2ada4b91"), looks := true }, kinds := [], alts := [], laidByText := true, laidKinds := [.data, .data, .data, .data, .sentinel, .sentinel, .pinned], laidTests := true, laidLooks := .later }
def FnLinesWordsUptoCardSaid : Prop := Claim7.holds Tryz.pinned (.plain (OpenSpec.upto fnLinesWordsSpec)) fnLinesWordsUptoCard

/-- THE SECOND FORM's CARD OF 'laws.FnExactLinesRun'. -/
def fnExactLinesRunUptoCard : Claim7 := { stood := { row := fnExactLinesRunUptoRow, standIns := [], harness := (true, "90b4ebd20bc5108c07d469a11527756e776b88e51ea502c6222d269f2ada4b91"), looks := true }, kinds := [], alts := [], laidByText := true, laidKinds := [.data, .data, .data, .data, .sentinel, .sentinel, .pinned], laidTests := true, laidLooks := .later }
def FnExactLinesRunUptoCardSaid : Prop := Claim7.holds Tryz.pinned (.plain (OpenSpec.upto fnExactLinesRunSpec)) fnExactLinesRunUptoCard

/-- THE SECOND FORM's CARD OF 'laws.FnLinesCalm'. -/
def fnLinesCalmUptoCard : Claim7 := { stood := { row := fnLinesCalmUptoRow, standIns := [], harness := (true, "90b4ebd20bc5108c07d469a11527756e776b88e51ea502c6222d269f2ada4b91"), looks := true }, kinds := [], alts := [], laidByText := true, laidKinds := [.data, .data, .data, .data, .sentinel, .sentinel, .pinned], laidTests := true, laidLooks := .later }
def FnLinesCalmUptoCardSaid : Prop := Claim7.holds Tryz.pinned (.plain (OpenSpec.upto fnLinesCalmSpec)) fnLinesCalmUptoCard

/-- THE SECOND FORM's CARD OF 'laws.FnLinesDouble'. -/
def fnLinesDoubleUptoCard : Claim7 := { stood := { row := fnLinesDoubleUptoRow, standIns := [], harness := (true, "90b4ebd20bc5108c07d469a11527756e776b88e51ea502c6222d269f2ada4b91"), looks := true }, kinds := [], alts := [], laidByText := true, laidKinds := [.data, .data, .data, .data, .sentinel, .sentinel, .pinned], laidTests := true, laidLooks := .later }
def FnLinesDoubleUptoCardSaid : Prop := Claim7.holds Tryz.pinned (.plain (OpenSpec.upto fnLinesDoubleSpec)) fnLinesDoubleUptoCard

/-- THE SECOND FORM's CARD OF 'laws.FnLinesFall'. -/
def fnLinesFallUptoCard : Claim7 := { stood := { row := fnLinesFallUptoRow, standIns := [], harness := (true, "90b4ebd20bc5108c07d469a11527756e776b88e51ea502c6222d269f2ada4b91"), looks := true }, kinds := [], alts := [], laidByText := true, laidKinds := [.data, .data, .data, .data, .sentinel, .sentinel, .pinned], laidTests := true, laidLooks := .later }
def FnLinesFallUptoCardSaid : Prop := Claim7.holds Tryz.pinned (.plain (OpenSpec.upto fnLinesFallSpec)) fnLinesFallUptoCard

/-- THE SECOND FORM's CARD OF 'laws.FnLinesGive'. -/
def fnLinesGiveUptoCard : Claim7 := { stood := { row := fnLinesGiveUptoRow, standIns := [], harness := (true, "90b4ebd20bc5108c07d469a11527756e776b88e51ea502c6222d269f2ada4b91"), looks := true }, kinds := [], alts := [], laidByText := true, laidKinds := [.data, .data, .data, .data, .sentinel, .sentinel, .pinned], laidTests := true, laidLooks := .later }
def FnLinesGiveUptoCardSaid : Prop := Claim7.holds Tryz.pinned (.plain (OpenSpec.upto fnLinesGiveSpec)) fnLinesGiveUptoCard

/-- THE SECOND FORM's CARD OF 'laws.FnLinesNone'. -/
def fnLinesNoneUptoCard : Claim7 := { stood := { row := fnLinesNoneUptoRow, standIns := [], harness := (true, "90b4ebd20bc5108c07d469a11527756e776b88e51ea502c6222d269f2ada4b91"), looks := true }, kinds := [], alts := [], laidByText := true, laidKinds := [.data, .data, .data, .data, .sentinel, .sentinel, .pinned], laidTests := true, laidLooks := .later }
def FnLinesNoneUptoCardSaid : Prop := Claim7.holds Tryz.pinned (.plain (OpenSpec.upto fnLinesNoneSpec)) fnLinesNoneUptoCard

/-- THE SECOND FORM's CARD OF 'laws.FnLinesQuiet'. -/
def fnLinesQuietUptoCard : Claim7 := { stood := { row := fnLinesQuietUptoRow, standIns := [], harness := (true, "90b4ebd20bc5108c07d469a11527756e776b88e51ea502c6222d269f2ada4b91"), looks := true }, kinds := [], alts := [], laidByText := true, laidKinds := [.data, .data, .data, .data, .sentinel, .sentinel, .pinned], laidTests := true, laidLooks := .later }
def FnLinesQuietUptoCardSaid : Prop := Claim7.holds Tryz.pinned (.plain (OpenSpec.upto fnLinesQuietSpec)) fnLinesQuietUptoCard

/-- THE SECOND FORM's CARD OF 'laws.FnLinesRun'. -/
def fnLinesRunUptoCard : Claim7 := { stood := { row := fnLinesRunUptoRow, standIns := [], harness := (true, "90b4ebd20bc5108c07d469a11527756e776b88e51ea502c6222d269f2ada4b91"), looks := true }, kinds := [], alts := [], laidByText := true, laidKinds := [.data, .data, .data, .data, .sentinel, .sentinel, .pinned], laidTests := true, laidLooks := .later }
def FnLinesRunUptoCardSaid : Prop := Claim7.holds Tryz.pinned (.plain (OpenSpec.upto fnLinesRunSpec)) fnLinesRunUptoCard
end Rows
end Go.Proofs.YtnbhinpnmgbbhaaGreatDoor
