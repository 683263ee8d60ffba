/-
  NARROWER THAN 'FOR EVERY INPUT', by the rows' own cells (each row's printed sentence says how): KernSteps: laid · KernSums: laid · KernScans: laid · KernReckons: laid · KernParts: laid · KernFills: laid.
  DERIVED. THE GIVEN ROWS OF THIS SEAT. 6 by the template 'for every input the law returns true; each argument reads behind the call as it read before'; 0 by the template 'total and deterministic' (their statements: YtfmlnjciomagiaaDoorTotals.lean).
  GIVEN WITH THE SEED: the statements are not yours to turn. If you find one false, say at which input.
  Laid BY PROGRAM, IN A SANDBOX (cutbox-rows.mjs): the forced cells as the released guide's own fill.sh prints them over the translation 80661a468030342a… (all of the seat's roots in one cut). By AI agents, Wed Nov 11 2026. No macro, syntax, notation, axiom, sorry.
-/
import Derived.Test.YtfmlnjciomagiaaDoorChecked
import GoSem.PinnedTables
import GoSem.Claim
import GoSem.ClaimJoined
import GoSem.ClaimMapViews
import Derived.JoinedTies
import Derived.KernelRfl
namespace Go.Proofs.YtfmlnjciomagiaaDoor
/- THE CELL 'sum', in the pinned program and in every row, IS THE sha256 OF THE DUMP (.gsa) THAT YtfmlnjciomagiaaDoorProg.lean LOADS. Nothing in Lean hashes anything: it is a label: what it is worth is what the hold of that sum in a sandbox is worth. -/
noncomputable def Tryd.pinned : Pinned := { name := "ytfmlnjciomagiaadoor", sum := "80661a468030342a9cdeffda7776595e6b403dc978d49c2e82480f423c6a4437", checked := Tryd.checked }
namespace Rows
def none {H : Type} : Left H := { results := [], args := [] }

/- WHAT THE LISTED PACKAGE-LEVEL VARIABLES READ AS WHEN THE CALL BEGINS. Each datum BY PROGRAM (the guide's laid-datum.mjs) off the statement by which the dump's own 'gosem.cut.vars' lays the variable. In a bare row this is a premise. The card (YtfmlnjciomagiaaDoorCards.lean) ties it to the program's text. -/
def laid_cadastre_value_names {H : Type} : DataW H := .agg [.lit (.string []), .lit (.string [35, 82, 69, 70, 33]), .lit (.string [35, 86, 65, 76, 85, 69, 33]), .lit (.string [35, 68, 73, 86, 47, 48, 33]), .lit (.string [35, 78, 85, 77, 33]), .lit (.string [35, 67, 89, 67, 76, 69, 33])]
def laid_unicode_utf8_acceptRanges {H : Type} : DataW H := .agg [.agg [.lit (.int .u8 128), .lit (.int .u8 191)], .agg [.lit (.int .u8 160), .lit (.int .u8 191)], .agg [.lit (.int .u8 128), .lit (.int .u8 159)], .agg [.lit (.int .u8 144), .lit (.int .u8 191)], .agg [.lit (.int .u8 128), .lit (.int .u8 143)], .agg [.lit (.int .u8 0), .lit (.int .u8 0)], .agg [.lit (.int .u8 0), .lit (.int .u8 0)], .agg [.lit (.int .u8 0), .lit (.int .u8 0)], .agg [.lit (.int .u8 0), .lit (.int .u8 0)], .agg [.lit (.int .u8 0), .lit (.int .u8 0)], .agg [.lit (.int .u8 0), .lit (.int .u8 0)], .agg [.lit (.int .u8 0), .lit (.int .u8 0)], .agg [.lit (.int .u8 0), .lit (.int .u8 0)], .agg [.lit (.int .u8 0), .lit (.int .u8 0)], .agg [.lit (.int .u8 0), .lit (.int .u8 0)], .agg [.lit (.int .u8 0), .lit (.int .u8 0)]]
/-- One of Go's own tables, pinned by name: the form's constant. -/
def laid_unicode_utf8_first : DataW Unit := Go.Pinned.utf8First

/-- 'cadastrelaw23.KernSteps': WHATEVER THE INPUT: true; the input reads as it did. -/
def kernStepsSpec : ChangeSpec := { name := "kernSteps", fn := fun _ => fun
  | [d1, d2] => { results := [.lit (.bool true)], args := [d1, d2] }
  | _ => none }
def kernStepsRow : OpenClaim := { program := "ytfmlnjciomagiaadoor", sum := "80661a468030342a9cdeffda7776595e6b403dc978d49c2e82480f423c6a4437", func := "cadastre/cadastrelaw23.KernSteps", spec := "kernSteps", inPlace := ["math/bits.Add64"], named := ["cadastre/value.names"], apart := false, laid := [("cadastre/value.names", laid_cadastre_value_names)] }
def KernStepsSaid : Prop := kernStepsRow.holds Tryd.pinned (OpenSpec.ofChange kernStepsSpec)

/-- ITS FALSE NEIGHBOUR: 'it returns false'. Refute it at one input. -/
def kernStepsWrong : ChangeSpec := { name := "kernSteps", fn := fun _ => fun
  | [d1, d2] => { results := [.lit (.bool false)], args := [d1, d2] }
  | _ => none }
def KernStepsWrongFalsely : Prop := kernStepsRow.holds Tryd.pinned (OpenSpec.ofChange kernStepsWrong)

/-- 'cadastrelaw23.KernSums': WHATEVER THE INPUT: true; the input reads as it did. -/
def kernSumsSpec : ChangeSpec := { name := "kernSums", fn := fun _ => fun
  | [d1, d2, d3] => { results := [.lit (.bool true)], args := [d1, d2, d3] }
  | _ => none }
def kernSumsRow : OpenClaim := { program := "ytfmlnjciomagiaadoor", sum := "80661a468030342a9cdeffda7776595e6b403dc978d49c2e82480f423c6a4437", func := "cadastre/cadastrelaw23.KernSums", spec := "kernSums", inPlace := ["math/bits.Add64"], unfollowed := true, recurses := true, named := ["cadastre/value.names"], apart := false, laid := [("cadastre/value.names", laid_cadastre_value_names)] }
def KernSumsSaid : Prop := kernSumsRow.holds Tryd.pinned (OpenSpec.ofChange kernSumsSpec)

/-- ITS FALSE NEIGHBOUR: 'it returns false'. Refute it at one input. -/
def kernSumsWrong : ChangeSpec := { name := "kernSums", fn := fun _ => fun
  | [d1, d2, d3] => { results := [.lit (.bool false)], args := [d1, d2, d3] }
  | _ => none }
def KernSumsWrongFalsely : Prop := kernSumsRow.holds Tryd.pinned (OpenSpec.ofChange kernSumsWrong)

/-- 'cadastrelaw23.KernScans': WHATEVER THE INPUT: true; the input reads as it did. -/
def kernScansSpec : ChangeSpec := { name := "kernScans", fn := fun _ => fun
  | [d1, d2, d3] => { results := [.lit (.bool true)], args := [d1, d2, d3] }
  | _ => none }
def kernScansRow : OpenClaim := { program := "ytfmlnjciomagiaadoor", sum := "80661a468030342a9cdeffda7776595e6b403dc978d49c2e82480f423c6a4437", func := "cadastre/cadastrelaw23.KernScans", spec := "kernScans", inPlace := ["math/bits.Add64"], unfollowed := true, recurses := true, named := ["cadastre/value.names"], apart := false, laid := [("cadastre/value.names", laid_cadastre_value_names)] }
def KernScansSaid : Prop := kernScansRow.holds Tryd.pinned (OpenSpec.ofChange kernScansSpec)

/-- ITS FALSE NEIGHBOUR: 'it returns false'. Refute it at one input. -/
def kernScansWrong : ChangeSpec := { name := "kernScans", fn := fun _ => fun
  | [d1, d2, d3] => { results := [.lit (.bool false)], args := [d1, d2, d3] }
  | _ => none }
def KernScansWrongFalsely : Prop := kernScansRow.holds Tryd.pinned (OpenSpec.ofChange kernScansWrong)

/-- 'cadastrelaw23.KernReckons': WHATEVER THE INPUT: true; the input reads as it did. -/
def kernReckonsSpec : ChangeSpec := { name := "kernReckons", fn := fun _ => fun
  | [d1, d2, d3] => { results := [.lit (.bool true)], args := [d1, d2, d3] }
  | _ => none }
def kernReckonsRow : OpenClaim := { program := "ytfmlnjciomagiaadoor", sum := "80661a468030342a9cdeffda7776595e6b403dc978d49c2e82480f423c6a4437", func := "cadastre/cadastrelaw23.KernReckons", spec := "kernReckons", inPlace := ["math/bits.Add64"], unfollowed := true, recurses := true, named := ["math/bits.divideError", "math/bits.overflowError", "cadastre/value.names"], apart := false, laid := [("cadastre/value.names", laid_cadastre_value_names)] }
def KernReckonsSaid : Prop := kernReckonsRow.holds Tryd.pinned (OpenSpec.ofChange kernReckonsSpec)

/-- ITS FALSE NEIGHBOUR: 'it returns false'. Refute it at one input. -/
def kernReckonsWrong : ChangeSpec := { name := "kernReckons", fn := fun _ => fun
  | [d1, d2, d3] => { results := [.lit (.bool false)], args := [d1, d2, d3] }
  | _ => none }
def KernReckonsWrongFalsely : Prop := kernReckonsRow.holds Tryd.pinned (OpenSpec.ofChange kernReckonsWrong)

/-- 'cadastrelaw23.KernParts': WHATEVER THE INPUT: true; the input reads as it did. -/
def kernPartsSpec : ChangeSpec := { name := "kernParts", fn := fun _ => fun
  | [d1, d2, d3] => { results := [.lit (.bool true)], args := [d1, d2, d3] }
  | _ => none }
def kernPartsRow : OpenClaim := { program := "ytfmlnjciomagiaadoor", sum := "80661a468030342a9cdeffda7776595e6b403dc978d49c2e82480f423c6a4437", func := "cadastre/cadastrelaw23.KernParts", spec := "kernParts", inPlace := ["math/bits.Add64"], unfollowed := true, recurses := true, named := ["math/bits.divideError", "math/bits.overflowError", "cadastre/value.names"], apart := false, laid := [("cadastre/value.names", laid_cadastre_value_names)] }
def KernPartsSaid : Prop := kernPartsRow.holds Tryd.pinned (OpenSpec.ofChange kernPartsSpec)

/-- ITS FALSE NEIGHBOUR: 'it returns false'. Refute it at one input. -/
def kernPartsWrong : ChangeSpec := { name := "kernParts", fn := fun _ => fun
  | [d1, d2, d3] => { results := [.lit (.bool false)], args := [d1, d2, d3] }
  | _ => none }
def KernPartsWrongFalsely : Prop := kernPartsRow.holds Tryd.pinned (OpenSpec.ofChange kernPartsWrong)

/-- 'cadastrelaw23.KernFills': WHATEVER THE INPUT: true; the input reads as it did. -/
def kernFillsSpec : ChangeSpec := { name := "kernFills", fn := fun _ => fun
  | [d1, d2, d3] => { results := [.lit (.bool true)], args := [d1, d2, d3] }
  | _ => none }
def kernFillsRow : OpenClaim := { program := "ytfmlnjciomagiaadoor", sum := "80661a468030342a9cdeffda7776595e6b403dc978d49c2e82480f423c6a4437", func := "cadastre/cadastrelaw23.KernFills", spec := "kernFills", inPlace := ["internal/bytealg.IndexByteString", "internal/bytealg.IndexString", "math/bits.Add64"], named := ["cadastre/value.names", "internal/bytealg.MaxLen", "unicode/utf8.first", "unicode/utf8.acceptRanges"], apart := false, laid := [("unicode/utf8.acceptRanges", laid_unicode_utf8_acceptRanges), ("cadastre/value.names", laid_cadastre_value_names), ("unicode/utf8.first", laid_unicode_utf8_first)] }
def KernFillsSaid : Prop := kernFillsRow.holds Tryd.pinned (OpenSpec.ofChange kernFillsSpec)

/-- ITS FALSE NEIGHBOUR: 'it returns false'. Refute it at one input. -/
def kernFillsWrong : ChangeSpec := { name := "kernFills", fn := fun _ => fun
  | [d1, d2, d3] => { results := [.lit (.bool false)], args := [d1, d2, d3] }
  | _ => none }
def KernFillsWrongFalsely : Prop := kernFillsRow.holds Tryd.pinned (OpenSpec.ofChange kernFillsWrong)

/- THE SECOND FORM. 'bulk': how many values and letters a reading holds, each counted each time it is reached (what is shared counts as often as it is met; a slice's spare places count too). A statement '..UptoSaid' is the law's where the arguments, and the package variables that the reading takes, are together of bulk at most 1048576: NARROWER than '..Said'. Prove '..Said' where nothing that the law and all that it calls make is longer than what came in: it says more and counts as full. Else prove '..UptoSaid'. A law counts once. -/
mutual
def uptoBulk {H : Type} : DataW H → Nat
  | .lit (.string bytes) => bytes.length + 1
  | .lit _ => 1
  | .nil => 1
  | .ptr d => uptoBulk d + 1
  | .slice elems spare => uptoBulkAll elems + uptoBulkAll spare + 1
  | .agg parts => uptoBulkAll parts + 1
  | .iface _ d => uptoBulk d + 1
  | .map entries => uptoBulkEntries entries + 1
  | .held _ => 1
def uptoBulkAll {H : Type} : List (DataW H) → Nat
  | [] => 0
  | d :: r => uptoBulk d + uptoBulkAll r
def uptoBulkEntries {H : Type} : List (Lit × DataW H) → Nat
  | [] => 0
  | x :: r => uptoBulkEntry x + uptoBulkEntries r
def uptoBulkEntry {H : Type} : Lit × DataW H → Nat
  | (.string bytes, d) => bytes.length + uptoBulk d + 1
  | (_, d) => uptoBulk d + 1
 end
def uptoSmall : (H : Type) → List (DataW H) → Bool := fun _ ds => decide (uptoBulkAll ds ≤ 1048576)
def OpenSpec.upto (s : _root_.Go.ChangeSpec) : _root_.Go.OpenSpec := { _root_.Go.OpenSpec.ofChange s with cond := some uptoSmall }

/-- 'cadastrelaw23.KernSteps', WHERE WHAT IT READS IS OF BULK AT MOST 1048576: true; the input reads as it did. -/
def kernStepsUptoRow : OpenClaim := { program := "ytfmlnjciomagiaadoor", sum := "80661a468030342a9cdeffda7776595e6b403dc978d49c2e82480f423c6a4437", func := "cadastre/cadastrelaw23.KernSteps", spec := "kernSteps", inPlace := ["math/bits.Add64"], named := ["cadastre/value.names"], apart := false, laid := [("cadastre/value.names", laid_cadastre_value_names)], narrowed := true }
def KernStepsUptoSaid : Prop := kernStepsUptoRow.holds Tryd.pinned (OpenSpec.upto kernStepsSpec)

/-- 'cadastrelaw23.KernSums', WHERE WHAT IT READS IS OF BULK AT MOST 1048576: true; the input reads as it did. -/
def kernSumsUptoRow : OpenClaim := { program := "ytfmlnjciomagiaadoor", sum := "80661a468030342a9cdeffda7776595e6b403dc978d49c2e82480f423c6a4437", func := "cadastre/cadastrelaw23.KernSums", spec := "kernSums", inPlace := ["math/bits.Add64"], unfollowed := true, recurses := true, named := ["cadastre/value.names"], apart := false, laid := [("cadastre/value.names", laid_cadastre_value_names)], narrowed := true }
def KernSumsUptoSaid : Prop := kernSumsUptoRow.holds Tryd.pinned (OpenSpec.upto kernSumsSpec)

/-- 'cadastrelaw23.KernScans', WHERE WHAT IT READS IS OF BULK AT MOST 1048576: true; the input reads as it did. -/
def kernScansUptoRow : OpenClaim := { program := "ytfmlnjciomagiaadoor", sum := "80661a468030342a9cdeffda7776595e6b403dc978d49c2e82480f423c6a4437", func := "cadastre/cadastrelaw23.KernScans", spec := "kernScans", inPlace := ["math/bits.Add64"], unfollowed := true, recurses := true, named := ["cadastre/value.names"], apart := false, laid := [("cadastre/value.names", laid_cadastre_value_names)], narrowed := true }
def KernScansUptoSaid : Prop := kernScansUptoRow.holds Tryd.pinned (OpenSpec.upto kernScansSpec)

/-- 'cadastrelaw23.KernReckons', WHERE WHAT IT READS IS OF BULK AT MOST 1048576: true; the input reads as it did. -/
def kernReckonsUptoRow : OpenClaim := { program := "ytfmlnjciomagiaadoor", sum := "80661a468030342a9cdeffda7776595e6b403dc978d49c2e82480f423c6a4437", func := "cadastre/cadastrelaw23.KernReckons", spec := "kernReckons", inPlace := ["math/bits.Add64"], unfollowed := true, recurses := true, named := ["math/bits.divideError", "math/bits.overflowError", "cadastre/value.names"], apart := false, laid := [("cadastre/value.names", laid_cadastre_value_names)], narrowed := true }
def KernReckonsUptoSaid : Prop := kernReckonsUptoRow.holds Tryd.pinned (OpenSpec.upto kernReckonsSpec)

/-- 'cadastrelaw23.KernParts', WHERE WHAT IT READS IS OF BULK AT MOST 1048576: true; the input reads as it did. -/
def kernPartsUptoRow : OpenClaim := { program := "ytfmlnjciomagiaadoor", sum := "80661a468030342a9cdeffda7776595e6b403dc978d49c2e82480f423c6a4437", func := "cadastre/cadastrelaw23.KernParts", spec := "kernParts", inPlace := ["math/bits.Add64"], unfollowed := true, recurses := true, named := ["math/bits.divideError", "math/bits.overflowError", "cadastre/value.names"], apart := false, laid := [("cadastre/value.names", laid_cadastre_value_names)], narrowed := true }
def KernPartsUptoSaid : Prop := kernPartsUptoRow.holds Tryd.pinned (OpenSpec.upto kernPartsSpec)

/-- 'cadastrelaw23.KernFills', WHERE WHAT IT READS IS OF BULK AT MOST 1048576: true; the input reads as it did. -/
def kernFillsUptoRow : OpenClaim := { program := "ytfmlnjciomagiaadoor", sum := "80661a468030342a9cdeffda7776595e6b403dc978d49c2e82480f423c6a4437", func := "cadastre/cadastrelaw23.KernFills", spec := "kernFills", inPlace := ["internal/bytealg.IndexByteString", "internal/bytealg.IndexString", "math/bits.Add64"], named := ["cadastre/value.names", "internal/bytealg.MaxLen", "unicode/utf8.first", "unicode/utf8.acceptRanges"], apart := false, laid := [("unicode/utf8.acceptRanges", laid_unicode_utf8_acceptRanges), ("cadastre/value.names", laid_cadastre_value_names), ("unicode/utf8.first", laid_unicode_utf8_first)], narrowed := true }
def KernFillsUptoSaid : Prop := kernFillsUptoRow.holds Tryd.pinned (OpenSpec.upto kernFillsSpec)

end Rows
end Go.Proofs.YtfmlnjciomagiaaDoor
