/-
  DERIVED. GIVEN WITH THE SEED: THE CARDS: each row of YtfmlnjciomagiaaDoorRows.lean that lists a variable, with what it lists TIED to the program's text (the seventh form; the later family's looks); each row that meets fmt, with fmt's text TOLD by the authors' own Lean function (tested against real Go, not proved from fmt's source: count such statements apart). THE CARD IS WHAT COUNTS. Prove the row's statement (the work); the ties are given (YtfmlnjciomagiaaDoorTie.lean); close each card by the builder's one call (the guide's Derived/Test/ToyasCard.lean, 'card_holds'). Laid BY PROGRAM, IN A SANDBOX (cutbox-door.mjs). By AI agents, Wed Nov 11 2026. No macro, syntax, notation, axiom, sorry.
-/
import Derived.Test.YtfmlnjciomagiaaDoorRows
import GoSem.ClaimSeven
namespace Go.Proofs.YtfmlnjciomagiaaDoor
namespace Rows

/-- THE TIED CARD OF 'cadastrelaw23.KernSteps'. -/
def kernStepsCard : Claim7 := { stood := { row := kernStepsRow, standIns := [], harness := (true, "03b0e4a827147f8754f54e9326535d2557c4f6b31d7fe12c7706a35abe5b6739"), looks := false }, kinds := [], alts := [], laidByText := true, laidKinds := [.widerDeep], laidTests := true, laidLooks := .later }
def KernStepsCardSaid : Prop := Claim7.holds Tryd.pinned (.plain (OpenSpec.ofChange kernStepsSpec)) kernStepsCard

/-- THE TIED CARD OF 'cadastrelaw23.KernSums'. -/
def kernSumsCard : Claim7 := { stood := { row := kernSumsRow, standIns := [], harness := (true, "03b0e4a827147f8754f54e9326535d2557c4f6b31d7fe12c7706a35abe5b6739"), looks := false }, kinds := [], alts := [], laidByText := true, laidKinds := [.widerDeep], laidTests := true, laidLooks := .later }
def KernSumsCardSaid : Prop := Claim7.holds Tryd.pinned (.plain (OpenSpec.ofChange kernSumsSpec)) kernSumsCard

/-- THE TIED CARD OF 'cadastrelaw23.KernScans'. -/
def kernScansCard : Claim7 := { stood := { row := kernScansRow, standIns := [], harness := (true, "03b0e4a827147f8754f54e9326535d2557c4f6b31d7fe12c7706a35abe5b6739"), looks := false }, kinds := [], alts := [], laidByText := true, laidKinds := [.widerDeep], laidTests := true, laidLooks := .later }
def KernScansCardSaid : Prop := Claim7.holds Tryd.pinned (.plain (OpenSpec.ofChange kernScansSpec)) kernScansCard

/-- THE TIED CARD OF 'cadastrelaw23.KernReckons'. -/
def kernReckonsCard : Claim7 := { stood := { row := kernReckonsRow, standIns := [], harness := (true, "03b0e4a827147f8754f54e9326535d2557c4f6b31d7fe12c7706a35abe5b6739"), looks := false }, kinds := [], alts := [], laidByText := true, laidKinds := [.widerDeep], laidTests := true, laidLooks := .later }
def KernReckonsCardSaid : Prop := Claim7.holds Tryd.pinned (.plain (OpenSpec.ofChange kernReckonsSpec)) kernReckonsCard

/-- THE TIED CARD OF 'cadastrelaw23.KernParts'. -/
def kernPartsCard : Claim7 := { stood := { row := kernPartsRow, standIns := [], harness := (true, "03b0e4a827147f8754f54e9326535d2557c4f6b31d7fe12c7706a35abe5b6739"), looks := false }, kinds := [], alts := [], laidByText := true, laidKinds := [.widerDeep], laidTests := true, laidLooks := .later }
def KernPartsCardSaid : Prop := Claim7.holds Tryd.pinned (.plain (OpenSpec.ofChange kernPartsSpec)) kernPartsCard

/-- THE TIED CARD OF 'cadastrelaw23.KernFills'. -/
def kernFillsCard : Claim7 := { stood := { row := kernFillsRow, standIns := [], harness := (true, "03b0e4a827147f8754f54e9326535d2557c4f6b31d7fe12c7706a35abe5b6739"), looks := false }, kinds := [], alts := [], laidByText := true, laidKinds := [.data, .widerDeep, .pinned], laidTests := true, laidLooks := .later }
def KernFillsCardSaid : Prop := Claim7.holds Tryd.pinned (.plain (OpenSpec.ofChange kernFillsSpec)) kernFillsCard

/-- THE SECOND FORM's CARD OF 'cadastrelaw23.KernSteps'. -/
def kernStepsUptoCard : Claim7 := { stood := { row := kernStepsUptoRow, standIns := [], harness := (true, "03b0e4a827147f8754f54e9326535d2557c4f6b31d7fe12c7706a35abe5b6739"), looks := false }, kinds := [], alts := [], laidByText := true, laidKinds := [.widerDeep], laidTests := true, laidLooks := .later }
def KernStepsUptoCardSaid : Prop := Claim7.holds Tryd.pinned (.plain (OpenSpec.upto kernStepsSpec)) kernStepsUptoCard

/-- THE SECOND FORM's CARD OF 'cadastrelaw23.KernSums'. -/
def kernSumsUptoCard : Claim7 := { stood := { row := kernSumsUptoRow, standIns := [], harness := (true, "03b0e4a827147f8754f54e9326535d2557c4f6b31d7fe12c7706a35abe5b6739"), looks := false }, kinds := [], alts := [], laidByText := true, laidKinds := [.widerDeep], laidTests := true, laidLooks := .later }
def KernSumsUptoCardSaid : Prop := Claim7.holds Tryd.pinned (.plain (OpenSpec.upto kernSumsSpec)) kernSumsUptoCard

/-- THE SECOND FORM's CARD OF 'cadastrelaw23.KernScans'. -/
def kernScansUptoCard : Claim7 := { stood := { row := kernScansUptoRow, standIns := [], harness := (true, "03b0e4a827147f8754f54e9326535d2557c4f6b31d7fe12c7706a35abe5b6739"), looks := false }, kinds := [], alts := [], laidByText := true, laidKinds := [.widerDeep], laidTests := true, laidLooks := .later }
def KernScansUptoCardSaid : Prop := Claim7.holds Tryd.pinned (.plain (OpenSpec.upto kernScansSpec)) kernScansUptoCard

/-- THE SECOND FORM's CARD OF 'cadastrelaw23.KernReckons'. -/
def kernReckonsUptoCard : Claim7 := { stood := { row := kernReckonsUptoRow, standIns := [], harness := (true, "03b0e4a827147f8754f54e9326535d2557c4f6b31d7fe12c7706a35abe5b6739"), looks := false }, kinds := [], alts := [], laidByText := true, laidKinds := [.widerDeep], laidTests := true, laidLooks := .later }
def KernReckonsUptoCardSaid : Prop := Claim7.holds Tryd.pinned (.plain (OpenSpec.upto kernReckonsSpec)) kernReckonsUptoCard

/-- THE SECOND FORM's CARD OF 'cadastrelaw23.KernParts'. -/
def kernPartsUptoCard : Claim7 := { stood := { row := kernPartsUptoRow, standIns := [], harness := (true, "03b0e4a827147f8754f54e9326535d2557c4f6b31d7fe12c7706a35abe5b6739"), looks := false }, kinds := [], alts := [], laidByText := true, laidKinds := [.widerDeep], laidTests := true, laidLooks := .later }
def KernPartsUptoCardSaid : Prop := Claim7.holds Tryd.pinned (.plain (OpenSpec.upto kernPartsSpec)) kernPartsUptoCard

/-- THE SECOND FORM's CARD OF 'cadastrelaw23.KernFills'. -/
def kernFillsUptoCard : Claim7 := { stood := { row := kernFillsUptoRow, standIns := [], harness := (true, "03b0e4a827147f8754f54e9326535d2557c4f6b31d7fe12c7706a35abe5b6739"), looks := false }, kinds := [], alts := [], laidByText := true, laidKinds := [.data, .widerDeep, .pinned], laidTests := true, laidLooks := .later }
def KernFillsUptoCardSaid : Prop := Claim7.holds Tryd.pinned (.plain (OpenSpec.upto kernFillsSpec)) kernFillsUptoCard
end Rows
end Go.Proofs.YtfmlnjciomagiaaDoor
