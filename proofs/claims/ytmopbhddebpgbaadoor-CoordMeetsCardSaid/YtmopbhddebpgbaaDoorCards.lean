/-
  DERIVED. GIVEN WITH THE SEED: THE CARDS: each row of YtmopbhddebpgbaaDoorRows.lean that lists a variable, with what it lists TIED to the program's text (the seventh form; the later family's looks); each row that meets fmt, with fmt's text TOLD by the authors' own Lean function (tested against real Go, not proved from fmt's source: count such statements apart). THE CARD IS WHAT COUNTS. Prove the row's statement (the work); the ties are given (YtmopbhddebpgbaaDoorTie.lean); close each card by the builder's one call (the guide's Derived/Test/ToyasCard.lean, 'card_holds'). Laid BY PROGRAM, IN A SANDBOX (cutbox-door.mjs). By AI agents, Wed Nov 11 2026. No macro, syntax, notation, axiom, sorry.
-/
import Derived.Test.YtmopbhddebpgbaaDoorRows
import GoSem.ClaimSeven
namespace Go.Proofs.YtmopbhddebpgbaaDoor
namespace Rows

/-- THE TIED CARD OF 'cadastrelaw06.CoordParses'. -/
def coordParsesCard : Claim7 := { stood := { row := coordParsesRow, standIns := [], harness := (true, "0699ec7da032c0a2ff36796081a9c62383117ec738e02a2878bca5a11772e545"), looks := false }, kinds := [], alts := [], laidByText := true, laidKinds := [.data, .data, .data], laidTests := true, laidLooks := .later }
def CoordParsesCardSaid : Prop := Claim7.holds Tryd.pinned (.plain (OpenSpec.ofChange coordParsesSpec)) coordParsesCard

/-- THE TIED CARD OF 'cadastrelaw06.CoordPrints'. -/
def coordPrintsCard : Claim7 := { stood := { row := coordPrintsRow, standIns := [], harness := (true, "0699ec7da032c0a2ff36796081a9c62383117ec738e02a2878bca5a11772e545"), looks := false }, kinds := [], alts := [], laidByText := true, laidKinds := [.data, .data, .data], laidTests := true, laidLooks := .later }
def CoordPrintsCardSaid : Prop := Claim7.holds Tryd.pinned (.plain (OpenSpec.ofChange coordPrintsSpec)) coordPrintsCard

/-- THE TIED CARD OF 'cadastrelaw06.CoordColumns'. -/
def coordColumnsCard : Claim7 := { stood := { row := coordColumnsRow, standIns := [], harness := (true, "0699ec7da032c0a2ff36796081a9c62383117ec738e02a2878bca5a11772e545"), looks := false }, kinds := [], alts := [], laidByText := true, laidKinds := [.data, .data, .data], laidTests := true, laidLooks := .later }
def CoordColumnsCardSaid : Prop := Claim7.holds Tryd.pinned (.plain (OpenSpec.ofChange coordColumnsSpec)) coordColumnsCard

/-- THE TIED CARD OF 'cadastrelaw06.CoordRects'. -/
def coordRectsCard : Claim7 := { stood := { row := coordRectsRow, standIns := [], harness := (true, "0699ec7da032c0a2ff36796081a9c62383117ec738e02a2878bca5a11772e545"), looks := false }, kinds := [], alts := [], laidByText := true, laidKinds := [.data, .data, .data], laidTests := true, laidLooks := .later }
def CoordRectsCardSaid : Prop := Claim7.holds Tryd.pinned (.plain (OpenSpec.ofChange coordRectsSpec)) coordRectsCard

/-- THE TIED CARD OF 'cadastrelaw06.CoordMeets'. -/
def coordMeetsCard : Claim7 := { stood := { row := coordMeetsRow, standIns := [], harness := (true, "0699ec7da032c0a2ff36796081a9c62383117ec738e02a2878bca5a11772e545"), looks := false }, kinds := [], alts := [], laidByText := true, laidKinds := [.data, .data, .data], laidTests := true, laidLooks := .later }
def CoordMeetsCardSaid : Prop := Claim7.holds Tryd.pinned (.plain (OpenSpec.ofChange coordMeetsSpec)) coordMeetsCard

/-- THE TIED CARD OF 'cadastrelaw06.CoordAreas'. -/
def coordAreasCard : Claim7 := { stood := { row := coordAreasRow, standIns := [], harness := (true, "0699ec7da032c0a2ff36796081a9c62383117ec738e02a2878bca5a11772e545"), looks := false }, kinds := [], alts := [], laidByText := true, laidKinds := [.data, .data, .data], laidTests := true, laidLooks := .later }
def CoordAreasCardSaid : Prop := Claim7.holds Tryd.pinned (.plain (OpenSpec.ofChange coordAreasSpec)) coordAreasCard

/-- THE SECOND FORM's CARD OF 'cadastrelaw06.CoordParses'. -/
def coordParsesUptoCard : Claim7 := { stood := { row := coordParsesUptoRow, standIns := [], harness := (true, "0699ec7da032c0a2ff36796081a9c62383117ec738e02a2878bca5a11772e545"), looks := false }, kinds := [], alts := [], laidByText := true, laidKinds := [.data, .data, .data], laidTests := true, laidLooks := .later }
def CoordParsesUptoCardSaid : Prop := Claim7.holds Tryd.pinned (.plain (OpenSpec.upto coordParsesSpec)) coordParsesUptoCard

/-- THE SECOND FORM's CARD OF 'cadastrelaw06.CoordPrints'. -/
def coordPrintsUptoCard : Claim7 := { stood := { row := coordPrintsUptoRow, standIns := [], harness := (true, "0699ec7da032c0a2ff36796081a9c62383117ec738e02a2878bca5a11772e545"), looks := false }, kinds := [], alts := [], laidByText := true, laidKinds := [.data, .data, .data], laidTests := true, laidLooks := .later }
def CoordPrintsUptoCardSaid : Prop := Claim7.holds Tryd.pinned (.plain (OpenSpec.upto coordPrintsSpec)) coordPrintsUptoCard

/-- THE SECOND FORM's CARD OF 'cadastrelaw06.CoordColumns'. -/
def coordColumnsUptoCard : Claim7 := { stood := { row := coordColumnsUptoRow, standIns := [], harness := (true, "0699ec7da032c0a2ff36796081a9c62383117ec738e02a2878bca5a11772e545"), looks := false }, kinds := [], alts := [], laidByText := true, laidKinds := [.data, .data, .data], laidTests := true, laidLooks := .later }
def CoordColumnsUptoCardSaid : Prop := Claim7.holds Tryd.pinned (.plain (OpenSpec.upto coordColumnsSpec)) coordColumnsUptoCard

/-- THE SECOND FORM's CARD OF 'cadastrelaw06.CoordRects'. -/
def coordRectsUptoCard : Claim7 := { stood := { row := coordRectsUptoRow, standIns := [], harness := (true, "0699ec7da032c0a2ff36796081a9c62383117ec738e02a2878bca5a11772e545"), looks := false }, kinds := [], alts := [], laidByText := true, laidKinds := [.data, .data, .data], laidTests := true, laidLooks := .later }
def CoordRectsUptoCardSaid : Prop := Claim7.holds Tryd.pinned (.plain (OpenSpec.upto coordRectsSpec)) coordRectsUptoCard

/-- THE SECOND FORM's CARD OF 'cadastrelaw06.CoordMeets'. -/
def coordMeetsUptoCard : Claim7 := { stood := { row := coordMeetsUptoRow, standIns := [], harness := (true, "0699ec7da032c0a2ff36796081a9c62383117ec738e02a2878bca5a11772e545"), looks := false }, kinds := [], alts := [], laidByText := true, laidKinds := [.data, .data, .data], laidTests := true, laidLooks := .later }
def CoordMeetsUptoCardSaid : Prop := Claim7.holds Tryd.pinned (.plain (OpenSpec.upto coordMeetsSpec)) coordMeetsUptoCard

/-- THE SECOND FORM's CARD OF 'cadastrelaw06.CoordAreas'. -/
def coordAreasUptoCard : Claim7 := { stood := { row := coordAreasUptoRow, standIns := [], harness := (true, "0699ec7da032c0a2ff36796081a9c62383117ec738e02a2878bca5a11772e545"), looks := false }, kinds := [], alts := [], laidByText := true, laidKinds := [.data, .data, .data], laidTests := true, laidLooks := .later }
def CoordAreasUptoCardSaid : Prop := Claim7.holds Tryd.pinned (.plain (OpenSpec.upto coordAreasSpec)) coordAreasUptoCard
end Rows
end Go.Proofs.YtmopbhddebpgbaaDoor
