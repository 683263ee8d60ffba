/- Functions of the program and of the references as plain Lean functions, and that each call answers what they say; conditions: each contract names its own. Written by a program of this session. -/
import Derived.Test.YtmopbhddebpgbaaDoorProg
import Derived.Below
import Derived.Deep.Draws
import Derived.Deep.AppendLies
import Derived.Maps.AppendAt
import Derived.OwnWalk
import Derived.Laws.BytesArg
import Derived.Laws.MakeOwn
import Derived.Laws.OwnMore
import Derived.Deep.OwnRows
import Derived.Tactics
import Derived.Lib.ConvBytes
import Derived.Laws.Slices
import Derived.WalkKit
import Derived.KernelRfl
import Derived.RowKit3
import Derived.Deep.LoopGhost
import Derived.Deep.QuietTactic
import Derived.BigQuiet
import Derived.WideLaws
import Derived.Deep.DeepCutAuto
import Derived.Deep.CutBlock
import Derived.Deep.RegionHeld3
import Derived.Laws.Rows
import Derived.Lib.AppendStr
import Derived.ArgAppend
import Derived.Laws.IdiomCopy
import Derived.OrdersHeld
import Derived.Laws.BitsLemmas
import Derived.RowKit
import Derived.Lib.AppendIntMem
import Derived.Test.YtmopbhddebpgbaaDoorShelf
import Derived.Test.YtmopbhddebpgbaaDoorWWords
import Derived.Test.YtmopbhddebpgbaaDoorWLast
import Derived.Test.YtmopbhddebpgbaaDoorWTab
import Derived.Test.YtmopbhddebpgbaaDoorWFour
import Derived.Test.YtmopbhddebpgbaaDoorWQPut
import Derived.Test.YtmopbhddebpgbaaDoorWApart
import Derived.Test.YtmopbhddebpgbaaDoorWArr
import Derived.Test.YtmopbhddebpgbaaDoorWZeros
import Derived.Test.YtmopbhddebpgbaaDoorWFoot
import Derived.Test.YtmopbhddebpgbaaDoorWKept
import Derived.Test.YtmopbhddebpgbaaDoorWShare
import Derived.Test.YtmopbhddebpgbaaDoorWN
import Derived.Test.YtmopbhddebpgbaaDoorWFootNe
import Derived.Test.YtmopbhddebpgbaaDoorWAt
import Derived.Test.YtmopbhddebpgbaaDoorWEqStruct
import Derived.Test.YtmopbhddebpgbaaDoorWRepsOne
import Derived.Test.YtmopbhddebpgbaaDoorWInv
import Derived.Test.YtmopbhddebpgbaaDoorWInvWords
import Derived.Test.YtmopbhddebpgbaaDoorWGuard
import Derived.Test.YtmopbhddebpgbaaDoorWNEv
import Derived.Test.YtmopbhddebpgbaaDoorWMore
namespace Go.Proofs.YtmopbhddebpgbaaDoor.QCoordT
open Go.RowKit Go.Proofs.YtmopbhddebpgbaaDoorW.PrintWords Go.Proofs.YtmopbhddebpgbaaDoorW.PrintLast Go.Proofs.YtmopbhddebpgbaaDoorW.PrintMore
attribute [local go_sem] max2_int min2_int max_two min_two max_three min_three max_four min_four   -- for this text's walks alone
set_option linter.unusedVariables false
set_option linter.unusedSimpArgs false



def errW : Option Int → Value
  | none => .nilIface
  | some c => .iface 0 (.int .i64 c)
theorem errW_none : errW none = .nilIface := rfl
theorem errW_some (c : Int) : errW (some c) = .iface 0 (.int .i64 c) := rfl

theorem info5 : (Tryd.prog.info? 5).map (fun i => (i.zero, i.size, i.bytes)) = some (some (.int .u8 0), 1, 1) := by kernel_rfl
-- the values' own types

/-- The package-level tables read as the program's text lays them. -/
def Glb (w : World) : Prop := Lib.TabIs Tryd.prog w "internal/strconv.uint64pow10" .u64 Lib.pow10Tab
theorem Glb.below {w W : World} (h : Glb w) (hb : Below w.heap.size w W) : Glb W := (Lib.tabBelow_of_tabIs h) W hb
theorem Glb.tab10 {w : World} (h : Glb w) : Lib.TabIs Tryd.prog w "internal/strconv.uint64pow10" .u64 Lib.pow10Tab := h
theorem bcell {W w1 : World} (hb : Below W.heap.size W w1) : (∀ b o, b < W.heap.size → w1.cell? ⟨b, o, none⟩ = W.cell? ⟨b, o, none⟩) ∧ (∀ b o, b < W.heap.size → w1.frozen? ⟨b, o, none⟩ = W.frozen? ⟨b, o, none⟩) :=
  ⟨fun b o h => hb.cell (p := ⟨b, o, none⟩) h, fun b o h => hb.frozen (p := ⟨b, o, none⟩) h⟩
theorem size_of_bytes (s : ByteArray) : s.size = (bytesOf s).length := (bytesOf_length s).symm
theorem set_i64 {cs : Array Value} {i : Nat} {a b : Int} (h : a = b) : cs.setIfInBounds i (.int .i64 a) = cs.setIfInBounds i (.int .i64 b) := by rw [h]

end Go.Proofs.YtmopbhddebpgbaaDoor.QCoordT
