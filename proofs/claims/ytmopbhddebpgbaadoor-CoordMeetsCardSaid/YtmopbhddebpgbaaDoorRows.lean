/-
  NARROWER THAN 'FOR EVERY INPUT', by the rows' own cells (each row's printed sentence says how): CoordParses: laid · CoordPrints: laid · CoordColumns: laid · CoordRects: laid · CoordMeets: laid · CoordAreas: laid.
  DERIVED. THE GIVEN ROWS OF THIS SEAT. 6 by the template 'for every input the law returns true; each argument reads behind the call as it read before'; 0 by the template 'total and deterministic' (their statements: YtmopbhddebpgbaaDoorTotals.lean).
  GIVEN WITH THE SEED: the statements are not yours to turn. If you find one false, say at which input.
  Laid BY PROGRAM, IN A SANDBOX (cutbox-rows.mjs): the forced cells as the released guide's own fill.sh prints them over the translation 979a5845ca2233f1… (all of the seat's roots in one cut). By AI agents, Wed Nov 11 2026. No macro, syntax, notation, axiom, sorry.
-/
import Derived.Test.YtmopbhddebpgbaaDoorChecked
import GoSem.Claim
import GoSem.ClaimJoined
import GoSem.ClaimMapViews
import Derived.JoinedTies
import Derived.KernelRfl
namespace Go.Proofs.YtmopbhddebpgbaaDoor
/- THE CELL 'sum', in the pinned program and in every row, IS THE sha256 OF THE DUMP (.gsa) THAT YtmopbhddebpgbaaDoorProg.lean LOADS. Nothing in Lean hashes anything: it is a label: what it is worth is what the hold of that sum in a sandbox is worth. -/
noncomputable def Tryd.pinned : Pinned := { name := "ytmopbhddebpgbaadoor", sum := "979a5845ca2233f1c67a278f873846b5fd6e86331ed874a919dd371d34b454ef", checked := Tryd.checked }
namespace Rows
def none {H : Type} : Left H := { results := [], args := [] }

/- WHAT THE LISTED PACKAGE-LEVEL VARIABLES READ AS WHEN THE CALL BEGINS. Each datum BY PROGRAM (the guide's laid-datum.mjs) off the statement by which the dump's own 'gosem.cut.vars' lays the variable. In a bare row this is a premise. The card (YtmopbhddebpgbaaDoorCards.lean) ties it to the program's text. -/
def laid_math_bits_deBruijn32tab {H : Type} : DataW H := .agg [.lit (.int .u8 0), .lit (.int .u8 1), .lit (.int .u8 28), .lit (.int .u8 2), .lit (.int .u8 29), .lit (.int .u8 14), .lit (.int .u8 24), .lit (.int .u8 3), .lit (.int .u8 30), .lit (.int .u8 22), .lit (.int .u8 20), .lit (.int .u8 15), .lit (.int .u8 25), .lit (.int .u8 17), .lit (.int .u8 4), .lit (.int .u8 8), .lit (.int .u8 31), .lit (.int .u8 27), .lit (.int .u8 13), .lit (.int .u8 23), .lit (.int .u8 21), .lit (.int .u8 19), .lit (.int .u8 16), .lit (.int .u8 7), .lit (.int .u8 26), .lit (.int .u8 12), .lit (.int .u8 18), .lit (.int .u8 6), .lit (.int .u8 11), .lit (.int .u8 5), .lit (.int .u8 10), .lit (.int .u8 9)]
def laid_math_bits_deBruijn64tab {H : Type} : DataW H := .agg [.lit (.int .u8 0), .lit (.int .u8 1), .lit (.int .u8 56), .lit (.int .u8 2), .lit (.int .u8 57), .lit (.int .u8 49), .lit (.int .u8 28), .lit (.int .u8 3), .lit (.int .u8 61), .lit (.int .u8 58), .lit (.int .u8 42), .lit (.int .u8 50), .lit (.int .u8 38), .lit (.int .u8 29), .lit (.int .u8 17), .lit (.int .u8 4), .lit (.int .u8 62), .lit (.int .u8 47), .lit (.int .u8 59), .lit (.int .u8 36), .lit (.int .u8 45), .lit (.int .u8 43), .lit (.int .u8 51), .lit (.int .u8 22), .lit (.int .u8 53), .lit (.int .u8 39), .lit (.int .u8 33), .lit (.int .u8 30), .lit (.int .u8 24), .lit (.int .u8 18), .lit (.int .u8 12), .lit (.int .u8 5), .lit (.int .u8 63), .lit (.int .u8 55), .lit (.int .u8 48), .lit (.int .u8 27), .lit (.int .u8 60), .lit (.int .u8 41), .lit (.int .u8 37), .lit (.int .u8 16), .lit (.int .u8 46), .lit (.int .u8 35), .lit (.int .u8 44), .lit (.int .u8 21), .lit (.int .u8 52), .lit (.int .u8 32), .lit (.int .u8 23), .lit (.int .u8 11), .lit (.int .u8 54), .lit (.int .u8 26), .lit (.int .u8 40), .lit (.int .u8 15), .lit (.int .u8 34), .lit (.int .u8 20), .lit (.int .u8 31), .lit (.int .u8 10), .lit (.int .u8 25), .lit (.int .u8 14), .lit (.int .u8 19), .lit (.int .u8 9), .lit (.int .u8 13), .lit (.int .u8 8), .lit (.int .u8 7), .lit (.int .u8 6)]
def laid_internal_strconv_uint64pow10 {H : Type} : DataW H := .agg [.lit (.int .u64 1), .lit (.int .u64 10), .lit (.int .u64 100), .lit (.int .u64 1000), .lit (.int .u64 10000), .lit (.int .u64 100000), .lit (.int .u64 1000000), .lit (.int .u64 10000000), .lit (.int .u64 100000000), .lit (.int .u64 1000000000), .lit (.int .u64 10000000000), .lit (.int .u64 100000000000), .lit (.int .u64 1000000000000), .lit (.int .u64 10000000000000), .lit (.int .u64 100000000000000), .lit (.int .u64 1000000000000000), .lit (.int .u64 10000000000000000), .lit (.int .u64 100000000000000000), .lit (.int .u64 1000000000000000000), .lit (.int .u64 10000000000000000000)]

/-- 'cadastrelaw06.CoordParses': WHATEVER THE INPUT: true; the input reads as it did. -/
def coordParsesSpec : ChangeSpec := { name := "coordParses", fn := fun _ => fun
  | [d] => { results := [.lit (.bool true)], args := [d] }
  | _ => none }
def coordParsesRow : OpenClaim := { program := "ytmopbhddebpgbaadoor", sum := "979a5845ca2233f1c67a278f873846b5fd6e86331ed874a919dd371d34b454ef", func := "cadastre/cadastrelaw06.CoordParses", spec := "coordParses", unfollowed := true, recurses := true, named := ["internal/strconv.uint64pow10", "math/bits.deBruijn32tab", "math/bits.deBruijn64tab"], apart := false, laid := [("math/bits.deBruijn32tab", laid_math_bits_deBruijn32tab), ("math/bits.deBruijn64tab", laid_math_bits_deBruijn64tab), ("internal/strconv.uint64pow10", laid_internal_strconv_uint64pow10)] }
def CoordParsesSaid : Prop := coordParsesRow.holds Tryd.pinned (OpenSpec.ofChange coordParsesSpec)

/-- ITS FALSE NEIGHBOUR: 'it returns false'. Refute it at one input. -/
def coordParsesWrong : ChangeSpec := { name := "coordParses", fn := fun _ => fun
  | [d] => { results := [.lit (.bool false)], args := [d] }
  | _ => none }
def CoordParsesWrongFalsely : Prop := coordParsesRow.holds Tryd.pinned (OpenSpec.ofChange coordParsesWrong)

/-- 'cadastrelaw06.CoordPrints': WHATEVER THE INPUT: true; the input reads as it did. -/
def coordPrintsSpec : ChangeSpec := { name := "coordPrints", fn := fun _ => fun
  | [d] => { results := [.lit (.bool true)], args := [d] }
  | _ => none }
def coordPrintsRow : OpenClaim := { program := "ytmopbhddebpgbaadoor", sum := "979a5845ca2233f1c67a278f873846b5fd6e86331ed874a919dd371d34b454ef", func := "cadastre/cadastrelaw06.CoordPrints", spec := "coordPrints", unfollowed := true, recurses := true, named := ["internal/strconv.uint64pow10", "math/bits.deBruijn32tab", "math/bits.deBruijn64tab"], apart := false, laid := [("math/bits.deBruijn32tab", laid_math_bits_deBruijn32tab), ("math/bits.deBruijn64tab", laid_math_bits_deBruijn64tab), ("internal/strconv.uint64pow10", laid_internal_strconv_uint64pow10)] }
def CoordPrintsSaid : Prop := coordPrintsRow.holds Tryd.pinned (OpenSpec.ofChange coordPrintsSpec)

/-- ITS FALSE NEIGHBOUR: 'it returns false'. Refute it at one input. -/
def coordPrintsWrong : ChangeSpec := { name := "coordPrints", fn := fun _ => fun
  | [d] => { results := [.lit (.bool false)], args := [d] }
  | _ => none }
def CoordPrintsWrongFalsely : Prop := coordPrintsRow.holds Tryd.pinned (OpenSpec.ofChange coordPrintsWrong)

/-- 'cadastrelaw06.CoordColumns': WHATEVER THE INPUT: true; the input reads as it did. -/
def coordColumnsSpec : ChangeSpec := { name := "coordColumns", fn := fun _ => fun
  | [d1, d2] => { results := [.lit (.bool true)], args := [d1, d2] }
  | _ => none }
def coordColumnsRow : OpenClaim := { program := "ytmopbhddebpgbaadoor", sum := "979a5845ca2233f1c67a278f873846b5fd6e86331ed874a919dd371d34b454ef", func := "cadastre/cadastrelaw06.CoordColumns", spec := "coordColumns", unfollowed := true, recurses := true, named := ["internal/strconv.uint64pow10", "math/bits.deBruijn32tab", "math/bits.deBruijn64tab"], apart := false, laid := [("math/bits.deBruijn32tab", laid_math_bits_deBruijn32tab), ("math/bits.deBruijn64tab", laid_math_bits_deBruijn64tab), ("internal/strconv.uint64pow10", laid_internal_strconv_uint64pow10)] }
def CoordColumnsSaid : Prop := coordColumnsRow.holds Tryd.pinned (OpenSpec.ofChange coordColumnsSpec)

/-- ITS FALSE NEIGHBOUR: 'it returns false'. Refute it at one input. -/
def coordColumnsWrong : ChangeSpec := { name := "coordColumns", fn := fun _ => fun
  | [d1, d2] => { results := [.lit (.bool false)], args := [d1, d2] }
  | _ => none }
def CoordColumnsWrongFalsely : Prop := coordColumnsRow.holds Tryd.pinned (OpenSpec.ofChange coordColumnsWrong)

/-- 'cadastrelaw06.CoordRects': WHATEVER THE INPUT: true; the input reads as it did. -/
def coordRectsSpec : ChangeSpec := { name := "coordRects", fn := fun _ => fun
  | [d1, d2, d3] => { results := [.lit (.bool true)], args := [d1, d2, d3] }
  | _ => none }
def coordRectsRow : OpenClaim := { program := "ytmopbhddebpgbaadoor", sum := "979a5845ca2233f1c67a278f873846b5fd6e86331ed874a919dd371d34b454ef", func := "cadastre/cadastrelaw06.CoordRects", spec := "coordRects", unfollowed := true, recurses := true, named := ["internal/strconv.uint64pow10", "math/bits.deBruijn32tab", "math/bits.deBruijn64tab"], apart := false, laid := [("math/bits.deBruijn32tab", laid_math_bits_deBruijn32tab), ("math/bits.deBruijn64tab", laid_math_bits_deBruijn64tab), ("internal/strconv.uint64pow10", laid_internal_strconv_uint64pow10)] }
def CoordRectsSaid : Prop := coordRectsRow.holds Tryd.pinned (OpenSpec.ofChange coordRectsSpec)

/-- ITS FALSE NEIGHBOUR: 'it returns false'. Refute it at one input. -/
def coordRectsWrong : ChangeSpec := { name := "coordRects", fn := fun _ => fun
  | [d1, d2, d3] => { results := [.lit (.bool false)], args := [d1, d2, d3] }
  | _ => none }
def CoordRectsWrongFalsely : Prop := coordRectsRow.holds Tryd.pinned (OpenSpec.ofChange coordRectsWrong)

/-- 'cadastrelaw06.CoordMeets': WHATEVER THE INPUT: true; the input reads as it did. -/
def coordMeetsSpec : ChangeSpec := { name := "coordMeets", fn := fun _ => fun
  | [d1, d2, d3] => { results := [.lit (.bool true)], args := [d1, d2, d3] }
  | _ => none }
def coordMeetsRow : OpenClaim := { program := "ytmopbhddebpgbaadoor", sum := "979a5845ca2233f1c67a278f873846b5fd6e86331ed874a919dd371d34b454ef", func := "cadastre/cadastrelaw06.CoordMeets", spec := "coordMeets", unfollowed := true, recurses := true, named := ["internal/strconv.uint64pow10", "math/bits.deBruijn32tab", "math/bits.deBruijn64tab"], apart := false, laid := [("math/bits.deBruijn32tab", laid_math_bits_deBruijn32tab), ("math/bits.deBruijn64tab", laid_math_bits_deBruijn64tab), ("internal/strconv.uint64pow10", laid_internal_strconv_uint64pow10)] }
def CoordMeetsSaid : Prop := coordMeetsRow.holds Tryd.pinned (OpenSpec.ofChange coordMeetsSpec)

/-- ITS FALSE NEIGHBOUR: 'it returns false'. Refute it at one input. -/
def coordMeetsWrong : ChangeSpec := { name := "coordMeets", fn := fun _ => fun
  | [d1, d2, d3] => { results := [.lit (.bool false)], args := [d1, d2, d3] }
  | _ => none }
def CoordMeetsWrongFalsely : Prop := coordMeetsRow.holds Tryd.pinned (OpenSpec.ofChange coordMeetsWrong)

/-- 'cadastrelaw06.CoordAreas': WHATEVER THE INPUT: true; the input reads as it did. -/
def coordAreasSpec : ChangeSpec := { name := "coordAreas", fn := fun _ => fun
  | [d1, d2] => { results := [.lit (.bool true)], args := [d1, d2] }
  | _ => none }
def coordAreasRow : OpenClaim := { program := "ytmopbhddebpgbaadoor", sum := "979a5845ca2233f1c67a278f873846b5fd6e86331ed874a919dd371d34b454ef", func := "cadastre/cadastrelaw06.CoordAreas", spec := "coordAreas", unfollowed := true, recurses := true, named := ["internal/strconv.uint64pow10", "math/bits.deBruijn32tab", "math/bits.deBruijn64tab"], apart := false, laid := [("math/bits.deBruijn32tab", laid_math_bits_deBruijn32tab), ("math/bits.deBruijn64tab", laid_math_bits_deBruijn64tab), ("internal/strconv.uint64pow10", laid_internal_strconv_uint64pow10)] }
def CoordAreasSaid : Prop := coordAreasRow.holds Tryd.pinned (OpenSpec.ofChange coordAreasSpec)

/-- ITS FALSE NEIGHBOUR: 'it returns false'. Refute it at one input. -/
def coordAreasWrong : ChangeSpec := { name := "coordAreas", fn := fun _ => fun
  | [d1, d2] => { results := [.lit (.bool false)], args := [d1, d2] }
  | _ => none }
def CoordAreasWrongFalsely : Prop := coordAreasRow.holds Tryd.pinned (OpenSpec.ofChange coordAreasWrong)

/- THE SECOND FORM. 'bulk': how many values and letters a reading holds, each counted each time it is reached (what is shared counts as often as it is met; a slice's spare places count too). A statement '..UptoSaid' is the law's where the arguments, and the package variables that the reading takes, are together of bulk at most 1048576: NARROWER than '..Said'. Prove '..Said' where nothing that the law and all that it calls make is longer than what came in: it says more and counts as full. Else prove '..UptoSaid'. A law counts once. -/
mutual
def uptoBulk {H : Type} : DataW H → Nat
  | .lit (.string bytes) => bytes.length + 1
  | .lit _ => 1
  | .nil => 1
  | .ptr d => uptoBulk d + 1
  | .slice elems spare => uptoBulkAll elems + uptoBulkAll spare + 1
  | .agg parts => uptoBulkAll parts + 1
  | .iface _ d => uptoBulk d + 1
  | .map entries => uptoBulkEntries entries + 1
  | .held _ => 1
def uptoBulkAll {H : Type} : List (DataW H) → Nat
  | [] => 0
  | d :: r => uptoBulk d + uptoBulkAll r
def uptoBulkEntries {H : Type} : List (Lit × DataW H) → Nat
  | [] => 0
  | x :: r => uptoBulkEntry x + uptoBulkEntries r
def uptoBulkEntry {H : Type} : Lit × DataW H → Nat
  | (.string bytes, d) => bytes.length + uptoBulk d + 1
  | (_, d) => uptoBulk d + 1
 end
def uptoSmall : (H : Type) → List (DataW H) → Bool := fun _ ds => decide (uptoBulkAll ds ≤ 1048576)
def OpenSpec.upto (s : _root_.Go.ChangeSpec) : _root_.Go.OpenSpec := { _root_.Go.OpenSpec.ofChange s with cond := some uptoSmall }

/-- 'cadastrelaw06.CoordParses', WHERE WHAT IT READS IS OF BULK AT MOST 1048576: true; the input reads as it did. -/
def coordParsesUptoRow : OpenClaim := { program := "ytmopbhddebpgbaadoor", sum := "979a5845ca2233f1c67a278f873846b5fd6e86331ed874a919dd371d34b454ef", func := "cadastre/cadastrelaw06.CoordParses", spec := "coordParses", unfollowed := true, recurses := true, named := ["internal/strconv.uint64pow10", "math/bits.deBruijn32tab", "math/bits.deBruijn64tab"], apart := false, laid := [("math/bits.deBruijn32tab", laid_math_bits_deBruijn32tab), ("math/bits.deBruijn64tab", laid_math_bits_deBruijn64tab), ("internal/strconv.uint64pow10", laid_internal_strconv_uint64pow10)], narrowed := true }
def CoordParsesUptoSaid : Prop := coordParsesUptoRow.holds Tryd.pinned (OpenSpec.upto coordParsesSpec)

/-- 'cadastrelaw06.CoordPrints', WHERE WHAT IT READS IS OF BULK AT MOST 1048576: true; the input reads as it did. -/
def coordPrintsUptoRow : OpenClaim := { program := "ytmopbhddebpgbaadoor", sum := "979a5845ca2233f1c67a278f873846b5fd6e86331ed874a919dd371d34b454ef", func := "cadastre/cadastrelaw06.CoordPrints", spec := "coordPrints", unfollowed := true, recurses := true, named := ["internal/strconv.uint64pow10", "math/bits.deBruijn32tab", "math/bits.deBruijn64tab"], apart := false, laid := [("math/bits.deBruijn32tab", laid_math_bits_deBruijn32tab), ("math/bits.deBruijn64tab", laid_math_bits_deBruijn64tab), ("internal/strconv.uint64pow10", laid_internal_strconv_uint64pow10)], narrowed := true }
def CoordPrintsUptoSaid : Prop := coordPrintsUptoRow.holds Tryd.pinned (OpenSpec.upto coordPrintsSpec)

/-- 'cadastrelaw06.CoordColumns', WHERE WHAT IT READS IS OF BULK AT MOST 1048576: true; the input reads as it did. -/
def coordColumnsUptoRow : OpenClaim := { program := "ytmopbhddebpgbaadoor", sum := "979a5845ca2233f1c67a278f873846b5fd6e86331ed874a919dd371d34b454ef", func := "cadastre/cadastrelaw06.CoordColumns", spec := "coordColumns", unfollowed := true, recurses := true, named := ["internal/strconv.uint64pow10", "math/bits.deBruijn32tab", "math/bits.deBruijn64tab"], apart := false, laid := [("math/bits.deBruijn32tab", laid_math_bits_deBruijn32tab), ("math/bits.deBruijn64tab", laid_math_bits_deBruijn64tab), ("internal/strconv.uint64pow10", laid_internal_strconv_uint64pow10)], narrowed := true }
def CoordColumnsUptoSaid : Prop := coordColumnsUptoRow.holds Tryd.pinned (OpenSpec.upto coordColumnsSpec)

/-- 'cadastrelaw06.CoordRects', WHERE WHAT IT READS IS OF BULK AT MOST 1048576: true; the input reads as it did. -/
def coordRectsUptoRow : OpenClaim := { program := "ytmopbhddebpgbaadoor", sum := "979a5845ca2233f1c67a278f873846b5fd6e86331ed874a919dd371d34b454ef", func := "cadastre/cadastrelaw06.CoordRects", spec := "coordRects", unfollowed := true, recurses := true, named := ["internal/strconv.uint64pow10", "math/bits.deBruijn32tab", "math/bits.deBruijn64tab"], apart := false, laid := [("math/bits.deBruijn32tab", laid_math_bits_deBruijn32tab), ("math/bits.deBruijn64tab", laid_math_bits_deBruijn64tab), ("internal/strconv.uint64pow10", laid_internal_strconv_uint64pow10)], narrowed := true }
def CoordRectsUptoSaid : Prop := coordRectsUptoRow.holds Tryd.pinned (OpenSpec.upto coordRectsSpec)

/-- 'cadastrelaw06.CoordMeets', WHERE WHAT IT READS IS OF BULK AT MOST 1048576: true; the input reads as it did. -/
def coordMeetsUptoRow : OpenClaim := { program := "ytmopbhddebpgbaadoor", sum := "979a5845ca2233f1c67a278f873846b5fd6e86331ed874a919dd371d34b454ef", func := "cadastre/cadastrelaw06.CoordMeets", spec := "coordMeets", unfollowed := true, recurses := true, named := ["internal/strconv.uint64pow10", "math/bits.deBruijn32tab", "math/bits.deBruijn64tab"], apart := false, laid := [("math/bits.deBruijn32tab", laid_math_bits_deBruijn32tab), ("math/bits.deBruijn64tab", laid_math_bits_deBruijn64tab), ("internal/strconv.uint64pow10", laid_internal_strconv_uint64pow10)], narrowed := true }
def CoordMeetsUptoSaid : Prop := coordMeetsUptoRow.holds Tryd.pinned (OpenSpec.upto coordMeetsSpec)

/-- 'cadastrelaw06.CoordAreas', WHERE WHAT IT READS IS OF BULK AT MOST 1048576: true; the input reads as it did. -/
def coordAreasUptoRow : OpenClaim := { program := "ytmopbhddebpgbaadoor", sum := "979a5845ca2233f1c67a278f873846b5fd6e86331ed874a919dd371d34b454ef", func := "cadastre/cadastrelaw06.CoordAreas", spec := "coordAreas", unfollowed := true, recurses := true, named := ["internal/strconv.uint64pow10", "math/bits.deBruijn32tab", "math/bits.deBruijn64tab"], apart := false, laid := [("math/bits.deBruijn32tab", laid_math_bits_deBruijn32tab), ("math/bits.deBruijn64tab", laid_math_bits_deBruijn64tab), ("internal/strconv.uint64pow10", laid_internal_strconv_uint64pow10)], narrowed := true }
def CoordAreasUptoSaid : Prop := coordAreasUptoRow.holds Tryd.pinned (OpenSpec.upto coordAreasSpec)

end Rows
end Go.Proofs.YtmopbhddebpgbaaDoor
