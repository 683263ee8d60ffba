/- Functions of the program and of the references as plain Lean functions, and that each call answers what they say; conditions: each contract names its own. Written by a program of this session. -/
import Derived.Test.YtfmlnjciomagiaaDoorProg
import Derived.Below
import Derived.Deep.Draws
import Derived.Deep.AppendLies
import Derived.Maps.AppendAt
import Derived.OwnWalk
import Derived.Laws.BytesArg
import Derived.Laws.MakeOwn
import Derived.Laws.OwnMore
import Derived.Deep.OwnRows
import Derived.Tactics
import Derived.Lib.ConvBytes
import Derived.Laws.Slices
import Derived.WalkKit
import Derived.KernelRfl
import Derived.RowKit3
import Derived.Deep.LoopGhost
import Derived.Deep.QuietTactic
import Derived.BigQuiet
import Derived.WideLaws
import Derived.Deep.DeepCutAuto
import Derived.Deep.CutBlock
import Derived.Deep.RegionHeld3
import Derived.Laws.Rows
import Derived.Lib.AppendStr
import Derived.ArgAppend
import Derived.Laws.IdiomCopy
import Derived.OrdersHeld
import Derived.Laws.BitsLemmas
import Derived.RowKit
import Derived.Lib.AppendIntMem
import Derived.WalkSmall
import Derived.Laws.Externs
import Derived.Handy
import Derived.Test.YtfmlnjciomagiaaDoorWWords
import Derived.Test.YtfmlnjciomagiaaDoorWLast
import Derived.Test.YtfmlnjciomagiaaDoorWTab
import Derived.Test.YtfmlnjciomagiaaDoorWFour
import Derived.Test.YtfmlnjciomagiaaDoorWQPut
import Derived.Test.YtfmlnjciomagiaaDoorWApart
import Derived.Test.YtfmlnjciomagiaaDoorWArr
import Derived.Test.YtfmlnjciomagiaaDoorWZeros
import Derived.Test.YtfmlnjciomagiaaDoorWFoot
import Derived.Test.YtfmlnjciomagiaaDoorWKept
import Derived.Test.YtfmlnjciomagiaaDoorWShare
import Derived.Test.YtfmlnjciomagiaaDoorWN
import Derived.Test.YtfmlnjciomagiaaDoorWFootNe
import Derived.Test.YtfmlnjciomagiaaDoorWAt
import Derived.Test.YtfmlnjciomagiaaDoorWEqStruct
import Derived.Test.YtfmlnjciomagiaaDoorWRepsOne
import Derived.Test.YtfmlnjciomagiaaDoorWInv
import Derived.Test.YtfmlnjciomagiaaDoorWInvWords
import Derived.Test.YtfmlnjciomagiaaDoorWGuard
import Derived.Test.YtfmlnjciomagiaaDoorWNEv
import Derived.Test.YtfmlnjciomagiaaDoorWMore
namespace Go.Proofs.YtfmlnjciomagiaaDoor.QKern
open Go.RowKit Go.Proofs.YtfmlnjciomagiaaDoorW.PrintWords Go.Proofs.YtfmlnjciomagiaaDoorW.PrintLast Go.Proofs.YtfmlnjciomagiaaDoorW.PrintMore
attribute [local go_sem] max2_int min2_int max_two min_two max_three min_three max_four min_four   -- for this text's walks alone
set_option linter.unusedVariables false
set_option linter.unusedSimpArgs false



def errW : Option Int → Value
  | none => .nilIface
  | some c => .iface 0 (.int .i64 c)
theorem errW_none : errW none = .nilIface := rfl
theorem errW_some (c : Int) : errW (some c) = .iface 0 (.int .i64 c) := rfl

theorem info2 : (Tryd.prog.info? 2).map (fun i => (i.zero, i.size, i.bytes)) = some (some (.int .i64 0), 1, 8) := by kernel_rfl
theorem info3 : (Tryd.prog.info? 3).map (fun i => (i.zero, i.size, i.bytes)) = some (some (.int .i64 0), 1, 8) := by kernel_rfl
-- the values' own types
def rd_L3 (xs : List (List Int)) (i : Int) : (List Int) := xs.getD i.toNat ([] : List Int)
theorem at_L3 {w : World} {A : Option Addr} {n : Nat} {xs : List (List Int)} (h : Kd.C (Kd.slice 2 (Kd.int .i64)) w A n xs) (i : Int) (h0 : 0 ≤ i) (h1 : i < n) : ∃ ad A0 c0, A = some ad ∧ w.cell? (ad.add i.toNat) = some (.slice A0 (rd_L3 xs i).length c0) ∧ (rd_L3 xs i).length ≤ c0 ∧ (Kd.int .i64).C w A0 (rd_L3 xs i).length (rd_L3 xs i) := by
  obtain ⟨ad, c, e, _, hK, hc0⟩ := Kd.C_get h ([] : List Int) i h0 h1
  have hc : ∀ j u, c[j]? = some u → w.cell? (ad.add (i.toNat * 1 + j)) = some u := hc0
  obtain ⟨A0, c0, rfl, l0, g0⟩ := hK
  exact ⟨ad, A0, c0, e, by have hq := hc 0 _ rfl; rwa [Nat.mul_one, Nat.add_zero] at hq, l0, g0⟩

def rd_L4 (xs : List (List Int)) (i : Int) : (List Int) := xs.getD i.toNat ([] : List Int)
theorem at_L4 {w : World} {A : Option Addr} {n : Nat} {xs : List (List Int)} (h : Kd.C (Kd.slice 3 (Kd.int .i64)) w A n xs) (i : Int) (h0 : 0 ≤ i) (h1 : i < n) : ∃ ad A0 c0, A = some ad ∧ w.cell? (ad.add i.toNat) = some (.slice A0 (rd_L4 xs i).length c0) ∧ (rd_L4 xs i).length ≤ c0 ∧ (Kd.int .i64).C w A0 (rd_L4 xs i).length (rd_L4 xs i) := by
  obtain ⟨ad, c, e, _, hK, hc0⟩ := Kd.C_get h ([] : List Int) i h0 h1
  have hc : ∀ j u, c[j]? = some u → w.cell? (ad.add (i.toNat * 1 + j)) = some u := hc0
  obtain ⟨A0, c0, rfl, l0, g0⟩ := hK
  exact ⟨ad, A0, c0, e, by have hq := hc 0 _ rfl; rwa [Nat.mul_one, Nat.add_zero] at hq, l0, g0⟩

/-- The package-level table of the errors' names reads as the program's text lays it. -/
def errNames : List ByteArray := [⟨#[]⟩, ⟨#[35, 82, 69, 70, 33]⟩, ⟨#[35, 86, 65, 76, 85, 69, 33]⟩, ⟨#[35, 68, 73, 86, 47, 48, 33]⟩, ⟨#[35, 78, 85, 77, 33]⟩, ⟨#[35, 67, 89, 67, 76, 69, 33]⟩]
def StrTab (P : Program) (w : World) (name : String) (l : List ByteArray) : Prop := w.var? P name = some (l.map fun s => Value.string s).toArray
def Glb (w : World) : Prop := StrTab Tryd.prog w "cadastre/value.names" errNames
theorem Glb.below {w W : World} (h : Glb w) (hb : Below w.heap.size w W) : Glb W := by
  unfold Glb StrTab at *
  have hg : Tryd.prog.globalNamed "cadastre/value.names" = some 0 := by kernel_rfl
  refine var?_below hb hg ?_ h
  unfold World.var? at h
  rw [hg] at h
  simp only [Option.bind_some] at h
  rcases Nat.lt_or_ge 0 w.heap.size with h' | h'
  · exact h'
  · rw [Array.getElem?_eq_none h'] at h; simp at h
theorem bcell {W w1 : World} (hb : Below W.heap.size W w1) : (∀ b o, b < W.heap.size → w1.cell? ⟨b, o, none⟩ = W.cell? ⟨b, o, none⟩) ∧ (∀ b o, b < W.heap.size → w1.frozen? ⟨b, o, none⟩ = W.frozen? ⟨b, o, none⟩) :=
  ⟨fun b o h => hb.cell (p := ⟨b, o, none⟩) h, fun b o h => hb.frozen (p := ⟨b, o, none⟩) h⟩
theorem set_i64 {cs : Array Value} {i : Nat} {a b : Int} (h : a = b) : cs.setIfInBounds i (.int .i64 a) = cs.setIfInBounds i (.int .i64 b) := by rw [h]

end Go.Proofs.YtfmlnjciomagiaaDoor.QKern
