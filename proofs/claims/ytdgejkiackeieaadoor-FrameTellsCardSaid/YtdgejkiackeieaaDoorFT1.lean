/- Texts of this claim, joined: ShL, Xl, PWr0, PWr1, PWr2, PWr3, WireS, WireP, PWr4, WireQ, WireR, WireT, Repl, ShR, ShA, Bld, WireX, RowX, HexT, UnhexT, ArrB, MixT, WordsT, CmpS, CmpT, SumT, Xa, Ld, WireU, WireV, WireY, WireZ, WireL, GramA, OpenX, FrameP, FrameQ, PCrc, Crc, Pl, FrameE, FrameF, FrameG, ShF, FrameH, FrameI, FrameJ, WireOrd, WireM, FrameK, FLFlags, FLBack, PSmall1, Xb, ShortT, Xs, Xd, PDigestTells0, PDigestTells1, GrefT, PDigestTells2, RefA, PDigestTells3a. -/
import Derived.Shelf.Strconv.Itoa0
import Derived.Test.YtdgejkiackeieaaDoorProg
import Derived.Test.YtdgejkiackeieaaDoorWWords
import Derived.Below
import Derived.Deep.Draws
import Derived.Deep.AppendLies
import Derived.Maps.AppendAt
import Derived.OwnWalk
import Derived.Laws.BytesArg
import Derived.Laws.MakeOwn
import Derived.Laws.OwnMore
import Derived.Deep.OwnRows
import Derived.Tactics
import Derived.Lib.ConvBytes
import Derived.Laws.Slices
import Derived.WalkKit
import Derived.KernelRfl
import Derived.RowKit3
import Derived.Deep.LoopGhost
import Derived.Deep.QuietTactic
import Derived.BigQuiet
import Derived.WideLaws
import Derived.Deep.DeepCutAuto
import Derived.Deep.CutBlock
import Derived.Deep.RegionHeld3
import Derived.Laws.Rows
import Derived.Lib.AppendStr
import Derived.ArgAppend
import Derived.Laws.IdiomCopy
import Derived.OrdersHeld
import Derived.Laws.BitsLemmas
import Derived.RowKit
import Derived.Test.YtdgejkiackeieaaDoorWLast
import Derived.Test.YtdgejkiackeieaaDoorWTab
import Derived.Test.YtdgejkiackeieaaDoorWFour
import Derived.Test.YtdgejkiackeieaaDoorWQPut
import Derived.Test.YtdgejkiackeieaaDoorWApart
import Derived.Test.YtdgejkiackeieaaDoorWArr
import Derived.Test.YtdgejkiackeieaaDoorWZeros
import Derived.Test.YtdgejkiackeieaaDoorWFoot
import Derived.Test.YtdgejkiackeieaaDoorWKept
import Derived.Test.YtdgejkiackeieaaDoorWShare
import Derived.Test.YtdgejkiackeieaaDoorWN
import Derived.Test.YtdgejkiackeieaaDoorWFootNe
import Derived.Test.YtdgejkiackeieaaDoorWAt
import Derived.Test.YtdgejkiackeieaaDoorWEqStruct
import Derived.Test.YtdgejkiackeieaaDoorWRepsOne
import Derived.Test.YtdgejkiackeieaaDoorWInv
import Derived.Test.YtdgejkiackeieaaDoorWInvWords
import Derived.Test.YtdgejkiackeieaaDoorWGuard
import Derived.Test.YtdgejkiackeieaaDoorWNEv
import Derived.Test.YtdgejkiackeieaaDoorWMore
import Derived.Lib.BitFns
import Derived.Laws.BitsAllLaws
import Derived.Lib.Strings
import Derived.Lib.SmallJoins
import Derived.Lib.Replace
import Derived.Lib.ReplaceLaws
import Derived.Lib.CountLaws
import Derived.Shelf.Strings.Replace
import Derived.Shelf.Strings.BuilderK
import Derived.Shelf.Small.Strs
import Derived.BigCall
import Derived.Outline
import Derived.Lib.Hide
import Derived.Test.YtdgejkiackeieaaDoorRows
import Derived.Test.YtdgejkiackeieaaDoorWSized
import Derived.HandedShaped
import Derived.Handed
import Derived.ProofKit
import Derived.OpenShut
import Derived.LaidMore
import Derived.Lay
import Derived.WalkSmall
import Derived.RegionTactic
import Derived.ChangeAlike
import Derived.Laws.Tables
import Derived.Laws.CopyOwn
import Derived.SevenTiedAt
import Derived.Stop.Joined
import Derived.WalkLawsBesides
import Derived.BigRegion
import Derived.ChangeKeysEq
import Derived.Deep.Slices
import Derived.Deep.Fields
import Derived.ChangeSame
import Derived.SliceStrings
import Derived.Lib.IndexMore
import Derived.Lib.LastIndexByte
import Derived.Shelf.Strings.Cut
import Derived.Shelf.Strings.LastIndex
import Derived.RangeFuncNested
import Derived.RangeFuncBound
import Derived.RangeFuncCalls
import Derived.RangeFuncLeaves
import Derived.RangeFuncBox
import Derived.Shelf.Abstract
import Derived.Shelf.RegionOpen
import Derived.OwnWalkIn
import Derived.TacticsInMore
import Derived.LoopNIn
import Derived.LoopIn
import GoSem.Op.String
section
set_option linter.unusedVariables false
set_option linter.unusedSimpArgs false
/- The library's contract of bits.Len64 at this program's numbers. -/
set_option linter.unusedVariables false
namespace Go.Proofs
open Go.Shelf
end Go.Proofs
end
section
set_option linter.unusedVariables false
set_option linter.unusedSimpArgs false
/- The library's contract of bits.Len64 in the form that the printed callers take. -/
set_option linter.unusedVariables false
namespace Go.Proofs.YtdgejkiackeieaaDoor
open Go.RowKit Go.Proofs.YtdgejkiackeieaaDoorW.PrintWords
end Go.Proofs.YtdgejkiackeieaaDoor
end
section
set_option linter.unusedVariables false
set_option linter.unusedSimpArgs false
-- printed by a program of this session's (xprint.py) out of the translation; Lean checks it
namespace Go.Proofs.YtdgejkiackeieaaDoor.PWr
open Go.RowKit Go.Proofs.YtdgejkiackeieaaDoorW.PrintWords Go.Proofs.YtdgejkiackeieaaDoorW.PrintLast Go.Proofs.YtdgejkiackeieaaDoorW.PrintMore
attribute [local go_sem] max2_int min2_int max_two min_two max_three min_three max_four min_four   -- for this text's walks alone
set_option linter.unusedVariables false
set_option linter.unusedSimpArgs false



theorem info5 : (Tryd.prog.info? 5).map (fun i => (i.zero, i.size, i.bytes)) = some (some (.int .u8 0), 1, 1) := by kernel_rfl
theorem info9 : (Tryd.prog.info? 9).map (fun i => (i.zero, i.size, i.bytes)) = some (some (.string ⟨#[]⟩), 1, 16) := by kernel_rfl
-- the values' own types

end Go.Proofs.YtdgejkiackeieaaDoor.PWr
end
section
set_option linter.unusedVariables false
set_option linter.unusedSimpArgs false
-- printed by a program of this session's (xprint.py) out of the translation; Lean checks it
namespace Go.Proofs.YtdgejkiackeieaaDoor.PWr
open Go.RowKit Go.Proofs.YtdgejkiackeieaaDoorW.PrintWords Go.Proofs.YtdgejkiackeieaaDoorW.PrintLast Go.Proofs.YtdgejkiackeieaaDoorW.PrintMore
attribute [local go_sem] max2_int min2_int max_two min_two max_three min_three max_four min_four   -- for this text's walks alone
set_option linter.unusedVariables false
set_option linter.unusedSimpArgs false

/-! ### wire_size: function 102 -/
/-- A state of type 117 at block g of W; what its slices lead to came in by w0. -/
def IsS117 (w0 W : World) (g : Nat) (f0 : ByteArray) (f1 : Bool) : Prop := W.heap[g]? = some (.cells #[.string f0, .bool f1] 117 (0, 0)) ∧ w0.heap.size ≤ g
theorem IsS117.grown {w0 W : World} {g : Nat} {f0 : ByteArray} {f1 : Bool} {W1 : World} {row : Option Nat} (h : IsS117 w0 W g f0 f1) (hw : W.grownBy W1 row) (hne : some g ≠ row) : IsS117 w0 W1 g f0 f1 := by
  obtain ⟨hb, hg⟩ := h
  exact ⟨blk_grown hb hw hne, hg⟩
theorem IsS117.fresh {w0 W : World} {g : Nat} {f0 : ByteArray} {f1 : Bool} (h : IsS117 w0 W g f0 f1) : ∀ k, W.heap.size ≤ k → k ≠ g := by
  obtain ⟨hb, hg⟩ := h
  exact Kd.freshB hb
theorem IsS117.kept {w0 W : World} {g : Nat} {f0 : ByteArray} {f1 : Bool} {W1 : World} {S : Nat → Prop} (h : IsS117 w0 W g f0 f1) (hk : Kept W W1 S) (hne : ¬ S g) : IsS117 w0 W1 g f0 f1 := by
  obtain ⟨hb, hg⟩ := h
  exact ⟨blk_kept hb hk hne, hg⟩
theorem IsS117.below {w0 W : World} {g : Nat} {f0 : ByteArray} {f1 : Bool} {W1 : World} (h : IsS117 w0 W g f0 f1) (hw : Below W.heap.size W W1) : IsS117 w0 W1 g f0 f1 := h.grown (grown_of_below hw none) (by simp)
theorem IsS117.alloc {w0 W : World} {g : Nat} {f0 : ByteArray} {f1 : Bool} (h : IsS117 w0 W g f0 f1) (o : Obj) : IsS117 w0 (W.alloc o) g f0 f1 := h.below (below_alloc (Below.refl _ _) o)
theorem IsS117.drewN {w0 W : World} {g : Nat} {f0 : ByteArray} {f1 : Bool} (h : IsS117 w0 W g f0 f1) (m : Nat) : IsS117 w0 (W.drewN m) g f0 f1 := h
theorem IsS117.drew {w0 W : World} {g : Nat} {f0 : ByteArray} {f1 : Bool} (h : IsS117 w0 W g f0 f1) : IsS117 w0 W.drew g f0 f1 := h
theorem IsS117.at_ {w0 W : World} {g : Nat} {f0 : ByteArray} {f1 : Bool} {w' : World} {m : Nat} (hq : W.drewN m = w') (h : IsS117 w0 W g f0 f1) : IsS117 w0 w' g f0 f1 := by subst hq; exact IsS117.drewN h m
theorem IsS117.apart {w0 W : World} {g : Nat} {f0 : ByteArray} {f1 : Bool} {α : Type} {d : Kd α} {e : Nat} {base : Nat} {ok : Nat → Prop} {v : Value} {xs : List α} (h : IsS117 w0 W g f0 f1) (ho : d.R e W base ok v xs) (ht : ∀ q, q ∈ e :: d.E → q ≠ 117) : d.R e W base (fun k => ok k ∧ k ≠ g) v xs := by
  obtain ⟨hb, hg⟩ := h
  exact Kd.R_types ho hb ht
theorem IsS117.lt {w0 W : World} {g : Nat} {f0 : ByteArray} {f1 : Bool} (h : IsS117 w0 W g f0 f1) : g < W.heap.size := by
  obtain ⟨hb, hg⟩ := h
  exact blk_lt hb
theorem IsS117.ge {w0 W : World} {g : Nat} {f0 : ByteArray} {f1 : Bool} (h : IsS117 w0 W g f0 f1) : w0.heap.size ≤ g := by
  obtain ⟨hb, hg⟩ := h
  exact hg
theorem IsS117.far {w0 W : World} {g : Nat} {f0 : ByteArray} {f1 : Bool} {p : Addr} (h : IsS117 w0 W g f0 f1) (hne : g ≠ p.block) (u : Value) : IsS117 w0 (W.setCell p u) g f0 f1 := by
  obtain ⟨hb, hg⟩ := h
  exact ⟨blk_far hb hne u, hg⟩
theorem IsS117.new (w0 W : World) (f0 : ByteArray) (f1 : Bool) (hB : Below w0.heap.size w0 W) : IsS117 w0 (W.alloc (.cells #[.string f0, .bool f1] 117)) W.heap.size f0 f1 := ⟨by simpa using heap_alloc_new W _, hB.size⟩

/-! ### wire_Reader_fail: function 115 -/
/-! ### wire_Reader_byte: function 117 -/
/-! ### wire_Reader_Int: function 72 -/
/-! ### wire_Reader_Num: function 70 -/
/-! ### bourneref02_digits: function 109 -/
end Go.Proofs.YtdgejkiackeieaaDoor.PWr
end
section
set_option linter.unusedVariables false
set_option linter.unusedSimpArgs false
-- printed by a program of this session's (xprint.py) out of the translation; Lean checks it
namespace Go.Proofs.YtdgejkiackeieaaDoor.PWr
open Go.RowKit Go.Proofs.YtdgejkiackeieaaDoorW.PrintWords Go.Proofs.YtdgejkiackeieaaDoorW.PrintLast Go.Proofs.YtdgejkiackeieaaDoorW.PrintMore
attribute [local go_sem] max2_int min2_int max_two min_two max_three min_three max_four min_four   -- for this text's walks alone
set_option linter.unusedVariables false
set_option linter.unusedSimpArgs false

/-! ### bourneref02_Int: function 49 -/
/-! ### bourneref02_Num: function 51 -/
/-! ### bourneref02_Text: function 52 -/
/-! ### bourneref02_Nums: function 54 -/
/-! ### bourneref02_Texts: function 56 -/
/-- A state of type 119 at block g of W; what its slices lead to came in by w0. -/
def IsS119 (w0 W : World) (g : Nat) (f0 : ByteArray) (f1 : Bool) : Prop := W.heap[g]? = some (.cells #[.string f0, .bool f1] 119 (0, 0)) ∧ w0.heap.size ≤ g
theorem IsS119.grown {w0 W : World} {g : Nat} {f0 : ByteArray} {f1 : Bool} {W1 : World} {row : Option Nat} (h : IsS119 w0 W g f0 f1) (hw : W.grownBy W1 row) (hne : some g ≠ row) : IsS119 w0 W1 g f0 f1 := by
  obtain ⟨hb, hg⟩ := h
  exact ⟨blk_grown hb hw hne, hg⟩
theorem IsS119.fresh {w0 W : World} {g : Nat} {f0 : ByteArray} {f1 : Bool} (h : IsS119 w0 W g f0 f1) : ∀ k, W.heap.size ≤ k → k ≠ g := by
  obtain ⟨hb, hg⟩ := h
  exact Kd.freshB hb
theorem IsS119.kept {w0 W : World} {g : Nat} {f0 : ByteArray} {f1 : Bool} {W1 : World} {S : Nat → Prop} (h : IsS119 w0 W g f0 f1) (hk : Kept W W1 S) (hne : ¬ S g) : IsS119 w0 W1 g f0 f1 := by
  obtain ⟨hb, hg⟩ := h
  exact ⟨blk_kept hb hk hne, hg⟩
theorem IsS119.below {w0 W : World} {g : Nat} {f0 : ByteArray} {f1 : Bool} {W1 : World} (h : IsS119 w0 W g f0 f1) (hw : Below W.heap.size W W1) : IsS119 w0 W1 g f0 f1 := h.grown (grown_of_below hw none) (by simp)
theorem IsS119.alloc {w0 W : World} {g : Nat} {f0 : ByteArray} {f1 : Bool} (h : IsS119 w0 W g f0 f1) (o : Obj) : IsS119 w0 (W.alloc o) g f0 f1 := h.below (below_alloc (Below.refl _ _) o)
theorem IsS119.drewN {w0 W : World} {g : Nat} {f0 : ByteArray} {f1 : Bool} (h : IsS119 w0 W g f0 f1) (m : Nat) : IsS119 w0 (W.drewN m) g f0 f1 := h
theorem IsS119.drew {w0 W : World} {g : Nat} {f0 : ByteArray} {f1 : Bool} (h : IsS119 w0 W g f0 f1) : IsS119 w0 W.drew g f0 f1 := h
theorem IsS119.at_ {w0 W : World} {g : Nat} {f0 : ByteArray} {f1 : Bool} {w' : World} {m : Nat} (hq : W.drewN m = w') (h : IsS119 w0 W g f0 f1) : IsS119 w0 w' g f0 f1 := by subst hq; exact IsS119.drewN h m
theorem IsS119.apart {w0 W : World} {g : Nat} {f0 : ByteArray} {f1 : Bool} {α : Type} {d : Kd α} {e : Nat} {base : Nat} {ok : Nat → Prop} {v : Value} {xs : List α} (h : IsS119 w0 W g f0 f1) (ho : d.R e W base ok v xs) (ht : ∀ q, q ∈ e :: d.E → q ≠ 119) : d.R e W base (fun k => ok k ∧ k ≠ g) v xs := by
  obtain ⟨hb, hg⟩ := h
  exact Kd.R_types ho hb ht
theorem IsS119.lt {w0 W : World} {g : Nat} {f0 : ByteArray} {f1 : Bool} (h : IsS119 w0 W g f0 f1) : g < W.heap.size := by
  obtain ⟨hb, hg⟩ := h
  exact blk_lt hb
theorem IsS119.ge {w0 W : World} {g : Nat} {f0 : ByteArray} {f1 : Bool} (h : IsS119 w0 W g f0 f1) : w0.heap.size ≤ g := by
  obtain ⟨hb, hg⟩ := h
  exact hg
theorem IsS119.far {w0 W : World} {g : Nat} {f0 : ByteArray} {f1 : Bool} {p : Addr} (h : IsS119 w0 W g f0 f1) (hne : g ≠ p.block) (u : Value) : IsS119 w0 (W.setCell p u) g f0 f1 := by
  obtain ⟨hb, hg⟩ := h
  exact ⟨blk_far hb hne u, hg⟩
theorem IsS119.new (w0 W : World) (f0 : ByteArray) (f1 : Bool) (hB : Below w0.heap.size w0 W) : IsS119 w0 (W.alloc (.cells #[.string f0, .bool f1] 119)) W.heap.size f0 f1 := ⟨by simpa using heap_alloc_new W _, hB.size⟩

/-! ### bourneref02_Reader_fail: function 116 -/
end Go.Proofs.YtdgejkiackeieaaDoor.PWr
end
section
set_option linter.unusedVariables false
set_option linter.unusedSimpArgs false
-- printed by a program of this session's (xprint.py) out of the translation; Lean checks it
namespace Go.Proofs.YtdgejkiackeieaaDoor.PWr
open Go.RowKit Go.Proofs.YtdgejkiackeieaaDoorW.PrintWords Go.Proofs.YtdgejkiackeieaaDoorW.PrintLast Go.Proofs.YtdgejkiackeieaaDoorW.PrintMore
attribute [local go_sem] max2_int min2_int max_two min_two max_three min_three max_four min_four   -- for this text's walks alone
set_option linter.unusedVariables false
set_option linter.unusedSimpArgs false

/-! ### bourneref02_Reader_Text: function 75 -/
/-! ### bourneref02_Reader_More: function 119 -/
/-! ### bourneref02_Reader_Texts: function 81 -/
/-! ### wire_Int: function 41 -/
/-! ### wire_Num: function 50 -/
end Go.Proofs.YtdgejkiackeieaaDoor.PWr
end
section
set_option linter.unusedVariables false
set_option linter.unusedSimpArgs false
/- The encoding of layer 2 in plain words: numbers, strings and lists as bytes, and how they are read back. No program in sight. -/
set_option linter.unusedVariables false
set_option linter.unusedSimpArgs false
namespace Go.Proofs.YtdgejkiackeieaaDoor.Wr
/-! ### the bytes of a number -/
/-! ### integers -/
/-- Where an int's range ends. -/
def InR (n : Int) : Prop := -9223372036854775808 ≤ n ∧ n ≤ 9223372036854775807
/-! ### strings -/
/-! ### lists -/
end Go.Proofs.YtdgejkiackeieaaDoor.Wr
end
section
set_option linter.unusedVariables false
set_option linter.unusedSimpArgs false
/- What the printed functions of layer 2 compute, in the encoding's plain words. -/
set_option linter.unusedVariables false
set_option linter.unusedSimpArgs false
namespace Go.Proofs.YtdgejkiackeieaaDoor.Wr
open Go.RowKit Go.Proofs.YtdgejkiackeieaaDoor.PWr Go.Proofs.YtdgejkiackeieaaDoorW.PrintWords Go.Proofs.YtdgejkiackeieaaDoorW.PrintMore
/-! ### strings and bytes -/
abbrev mkB (l : List UInt8) : ByteArray := ⟨l.toArray⟩
theorem mkB_list (l : List UInt8) : (mkB l).data.toList = l := rfl
theorem mkB_size (l : List UInt8) : (mkB l).size = l.length := by show l.toArray.size = l.length; exact List.size_toArray ..
theorem len_size (s : ByteArray) : s.data.toList.length = s.size := Array.length_toList
theorem ext_ {s t : ByteArray} (h : s.data.toList = t.data.toList) : s = t := by
  obtain ⟨⟨a⟩⟩ := s; obtain ⟨⟨b⟩⟩ := t; cases h; rfl
def uh (l : List UInt8) : List Int := l.map fun c => (c.toNat : Int)
theorem uh_length (l : List UInt8) : (uh l).length = l.length := List.length_map ..
theorem uh_append (a b : List UInt8) : uh (a ++ b) = uh a ++ uh b := List.map_append ..
theorem str_uh (l : List UInt8) : strOfNums (uh l) = mkB l := by
  apply ext_
  rw [strOfNums_data, uh, List.map_map]
  show _ = l
  conv => rhs; rw [← List.map_id l]
  exact List.map_congr_left (fun c _ => by simp)
theorem extract_drop (s : ByteArray) (a : Nat) : s.extract a s.size = mkB (s.data.toList.drop a) := by
  apply ext_
  rw [Lib.extract_data, mkB_list, List.take_of_length_le (by rw [List.length_drop, len_size]; omega)]
/-! ### size -/
/-! ### Int -/
end Go.Proofs.YtdgejkiackeieaaDoor.Wr
end
section
set_option linter.unusedVariables false
set_option linter.unusedSimpArgs false
-- printed by a program of this session's (xprint.py) out of the translation; Lean checks it
namespace Go.Proofs.YtdgejkiackeieaaDoor.PWr
open Go.RowKit Go.Proofs.YtdgejkiackeieaaDoorW.PrintWords Go.Proofs.YtdgejkiackeieaaDoorW.PrintLast Go.Proofs.YtdgejkiackeieaaDoorW.PrintMore
attribute [local go_sem] max2_int min2_int max_two min_two max_three min_three max_four min_four   -- for this text's walks alone
set_option linter.unusedVariables false
set_option linter.unusedSimpArgs false

/-! ### bourneref02_SameNums: function 76 -/
/-! ### bourneref02_SameTexts: function 79 -/
end Go.Proofs.YtdgejkiackeieaaDoor.PWr
end
section
set_option linter.unusedVariables false
set_option linter.unusedSimpArgs false
/- What the printed readers of layer 2 and the reference's printed functions compute, in the encoding's plain words. -/
set_option linter.unusedVariables false
set_option linter.unusedSimpArgs false
namespace Go.Proofs.YtdgejkiackeieaaDoor.Wr
open Go.RowKit Go.Proofs.YtdgejkiackeieaaDoor.PWr Go.Proofs.YtdgejkiackeieaaDoorW.PrintWords Go.Proofs.YtdgejkiackeieaaDoorW.PrintMore
end Go.Proofs.YtdgejkiackeieaaDoor.Wr
end
section
set_option linter.unusedVariables false
set_option linter.unusedSimpArgs false
/- What the reference's printed functions of layer 2 compute, in the encoding's plain words. -/
set_option linter.unusedVariables false
set_option linter.unusedSimpArgs false
namespace Go.Proofs.YtdgejkiackeieaaDoor.Wr
open Go.RowKit Go.Proofs.YtdgejkiackeieaaDoor.PWr Go.Proofs.YtdgejkiackeieaaDoorW.PrintWords Go.Proofs.YtdgejkiackeieaaDoorW.PrintMore
theorem mkB_append (a b : List UInt8) : mkB a ++ mkB b = mkB (a ++ b) := by
  apply ext_; rw [Go.Joins.data_append]
theorem rdOf_nat {xs : List ByteArray} (i : Nat) (h : i < xs.length) : rdOf ByteArray.empty xs (i : Int) = xs[i] := by
  show xs.getD ((i : Int)).toNat _ = _
  rw [Int.toNat_natCast, List.getD_eq_getElem?_getD, List.getElem?_eq_getElem h]; rfl
def lists (l : List ByteArray) : List (List UInt8) := l.map (·.data.toList)
end Go.Proofs.YtdgejkiackeieaaDoor.Wr
end
section
set_option linter.unusedVariables false
set_option linter.unusedSimpArgs false
/- What the reference's printed readers of layer 2 compute, in the encoding's plain words. -/
set_option linter.unusedVariables false
set_option linter.unusedSimpArgs false
namespace Go.Proofs.YtdgejkiackeieaaDoor.Wr
open Go.RowKit Go.Proofs.YtdgejkiackeieaaDoor.PWr Go.Proofs.YtdgejkiackeieaaDoorW.PrintWords Go.Proofs.YtdgejkiackeieaaDoorW.PrintMore
/-- The states that a reader can come to: once it has failed nothing is left. -/
def Okr (s : ByteArray) (bad : Bool) : Prop := bad = true → s = mkB []
end Go.Proofs.YtdgejkiackeieaaDoor.Wr
end
section
set_option linter.unusedVariables false
set_option linter.unusedSimpArgs false
/- strings.ReplaceAll as a plain scan from the left. -/
set_option linter.unusedVariables false
set_option linter.unusedSimpArgs false
namespace Go.Proofs.YtdgejkiackeieaaDoor
/-- What ReplaceAll does: at each place, from the left, an instance is replaced, any other byte is kept. -/
def scan (old new : List UInt8) : Nat → List UInt8 → List UInt8
  | 0, s => s
  | _ + 1, [] => []
  | f + 1, b :: l => if old.isPrefixOf (b :: l) then new ++ scan old new f ((b :: l).drop old.length) else b :: scan old new f l
theorem scan_nil (old new : List UInt8) (f : Nat) : scan old new f [] = [] := by cases f <;> rfl
theorem scan_miss (old new : List UInt8) : ∀ (s : List UInt8) (f : Nat), Lib.index s old = -1 → scan old new f s = s := by
  intro s
  induction s with
  | nil => intro f _; exact scan_nil old new f
  | cons b l ih =>
    intro f h
    cases f with
    | zero => rfl
    | succ f =>
      have hg := Lib.index_ge l old
      rw [Lib.index] at h
      rw [scan]
      by_cases hp : old.isPrefixOf (b :: l) = true
      · rw [if_pos hp] at h; cases h
      · rw [if_neg hp] at h
        by_cases hm : (Lib.index l old == -1) = true
        · rw [if_neg hp, ih f (beq_iff_eq.1 hm)]
        · rw [if_neg hm] at h; omega
theorem scan_hit (old new : List UInt8) : ∀ (s : List UInt8) (f i : Nat), s.length ≤ f → Lib.index s old = (i : Int) → s ≠ [] → ∃ f', s.length ≤ f' + i + 1 ∧ scan old new f s = s.take i ++ new ++ scan old new f' (s.drop (i + old.length)) := by
  intro s
  induction s with
  | nil => intro f i _ _ h; exact absurd rfl h
  | cons b l ih =>
    intro f i hf h _
    simp only [List.length_cons] at hf
    obtain ⟨f, rfl⟩ : ∃ m, f = m + 1 := ⟨f - 1, by omega⟩
    have hg := Lib.index_ge l old
    rw [Lib.index] at h
    rw [scan]
    by_cases hp : old.isPrefixOf (b :: l) = true
    · rw [if_pos hp] at h
      obtain rfl : i = 0 := by omega
      refine ⟨f, by simp only [List.length_cons]; omega, ?_⟩
      rw [if_pos hp, List.take_zero, Nat.zero_add]
      rfl
    · rw [if_neg hp] at h
      by_cases hm : (Lib.index l old == -1) = true
      · rw [if_pos hm] at h; omega
      · rw [if_neg hm] at h
        obtain ⟨j, rfl⟩ : ∃ j, i = j + 1 := ⟨i - 1, by have : Lib.index l old ≠ -1 := fun e => hm (beq_iff_eq.2 e); omega⟩
        have hj : Lib.index l old = (j : Int) := by omega
        by_cases hln : l = []
        · subst hln
          -- old is not empty here, for it is no prefix of what follows
          rw [Lib.index] at hj
          by_cases he : old.isEmpty = true
          · have : old = [] := by simpa using he
            subst this
            simp at hp
          · rw [if_neg he] at hj; omega
        · obtain ⟨f', h1, h2⟩ := ih f j (by omega) hj hln
          refine ⟨f', by simp only [List.length_cons]; omega, ?_⟩
          rw [if_neg hp, h2, List.take_succ_cons, show j + 1 + old.length = (j + old.length) + 1 by omega, List.drop_succ_cons]
          rfl
theorem replaceK_scan (old new : List UInt8) (ho : old ≠ []) : ∀ (n : Nat) (s : List UInt8) (f : Nat), s.length ≤ n → s.length ≤ f → Lib.replaceK old new (Lib.count s old) s = scan old new f s := by
  have hl : 0 < old.length := List.length_pos_iff.2 ho
  intro n
  induction n with
  | zero =>
    intro s f h _
    obtain rfl : s = [] := List.eq_nil_of_length_eq_zero (by omega)
    have hi : Lib.index [] old = -1 := by
      rw [Lib.index, if_neg]; simpa using ho
    rw [Lib.count_miss hi, scan_nil]; rfl
  | succ n ih =>
    intro s f h hf
    by_cases hm : Lib.index s old = -1
    · rw [Lib.count_miss hm, scan_miss old new s f hm]; rfl
    · obtain ⟨i, hi⟩ : ∃ i : Nat, Lib.index s old = (i : Int) := ⟨(Lib.index s old).toNat, by have := Lib.index_ge s old; omega⟩
      by_cases hs : s = []
      · subst hs
        rw [Lib.index, if_neg (by simpa using ho)] at hi; omega
      obtain ⟨f', h1, h2⟩ := scan_hit old new s f i hf hi hs
      rw [h2, Lib.count_hit ho hi, Nat.add_comm 1, Lib.replaceK_hit old new _ s i hi]
      have hs0 : 0 < s.length := List.length_pos_iff.2 hs
      rw [ih (s.drop (i + old.length)) f' (by rw [List.length_drop]; omega) (by rw [List.length_drop]; omega)]
theorem scan_self (old : List UInt8) : ∀ (f : Nat) (s : List UInt8), scan old old f s = s := by
  intro f
  induction f with
  | zero => intro s; rfl
  | succ f ih =>
    intro s
    cases s with
    | nil => rfl
    | cons b l =>
      rw [scan]
      by_cases hp : old.isPrefixOf (b :: l) = true
      · rw [if_pos hp, ih]
        obtain ⟨t, ht⟩ := List.isPrefixOf_iff_prefix.1 hp
        rw [← ht, List.drop_left]
      · rw [if_neg hp, ih]
theorem replaceAll_scan (s old new : List UInt8) (ho : old ≠ []) : Lib.replaceAll s old new = scan old new s.length s := by
  unfold Lib.replaceAll Lib.replace
  by_cases he : (old == new) = true
  · rw [if_pos he, ← beq_iff_eq.1 he, scan_self]
  · rw [if_neg he]
    have : Lib.replaceNum s old (-1) = Lib.count s old := by unfold Lib.replaceNum; rw [if_pos (Or.inl (by decide))]
    rw [this, replaceK_scan old new ho s.length s s.length (Nat.le_refl _) (Nat.le_refl _)]
/-- At one byte. -/
theorem replaceAll_one (s : List UInt8) (c : UInt8) (new : List UInt8) : Lib.replaceAll s [c] new = s.flatMap fun b => if b = c then new else [b] := by
  rw [replaceAll_scan s [c] new (by simp)]
  have : ∀ (s : List UInt8) (f : Nat), s.length ≤ f → scan [c] new f s = s.flatMap fun b => if b = c then new else [b] := by
    intro s
    induction s with
    | nil => intro f _; rw [scan_nil]; rfl
    | cons b l ih =>
      intro f hf
      simp only [List.length_cons] at hf
      obtain ⟨f, rfl⟩ : ∃ m, f = m + 1 := ⟨f - 1, by omega⟩
      rw [scan, List.flatMap_cons]
      by_cases hb : b = c
      · subst hb
        rw [if_pos (by simp [List.isPrefixOf]), if_pos rfl]
        show new ++ scan _ _ f l = _
        rw [ih f (by omega)]
      · rw [if_neg (by simp [List.isPrefixOf]; exact fun h => hb h.symm), if_neg hb, ih f (by omega)]
        rfl
  exact this s s.length (Nat.le_refl _)
end Go.Proofs.YtdgejkiackeieaaDoor
end
section
set_option linter.unusedVariables false
set_option linter.unusedSimpArgs false
/- The library's contract of strings.ReplaceAll at this program's numbers. -/
set_option linter.unusedVariables false
namespace Go.Proofs
open Go.Shelf
def Tryd.lays155_ren : Go.Shelf.Ren := ⟨fun | 155 => 101 | 154 => 133 | 138 => 144 | 165 => 145 | 143 => 146 | 166 => 132 | 197 => 147 | 169 => 93 | 195 => 150 | 218 => 151 | 240 => 124 | 241 => 152 | 219 => 153 | 260 => 154 | 276 => 140 | 277 => 155 | 217 => 125 | 225 => 156 | 224 => 157 | 267 => 158 | 266 => 141 | 314 => 159 | n => n, fun | 9 => 9 | 3 => 3 | 4 => 4 | 72 => 91 | 0 => 0 | 76 => 138 | 105 => 149 | 21 => 21 | 5 => 5 | 70 => 89 | 20 => 20 | 37 => 30 | 75 => 93 | 127 => 125 | 164 => 144 | 46 => 64 | 119 => 155 | 139 => 158 | 138 => 157 | 146 => 151 | 51 => 97 | 80 => 71 | n => n, fun | 1 => 4 | 3 => 5 | 4 => 6 | n => n⟩
theorem Tryd.lays155 : Go.Proofs.Lays.n155 Tryd.prog Tryd.lays155_ren := {
  mixed := by kernel_rfl
  f138 := Tryd.func144.trans (congrArg some (by kernel_rfl))
  f143 := Tryd.func146.trans (congrArg some (by kernel_rfl))
  f154 := Tryd.func133.trans (congrArg some (by kernel_rfl))
  f155 := Tryd.func101.trans (congrArg some (by kernel_rfl))
  f165 := Tryd.func145.trans (congrArg some (by kernel_rfl))
  f166 := Tryd.func132.trans (congrArg some (by kernel_rfl))
  f169 := Tryd.func93.trans (congrArg some (by kernel_rfl))
  f195 := Tryd.func150.trans (congrArg some (by kernel_rfl))
  f197 := Tryd.func147.trans (congrArg some (by kernel_rfl))
  f217 := Tryd.func125.trans (congrArg some (by kernel_rfl))
  f218 := Tryd.func151.trans (congrArg some (by kernel_rfl))
  f219 := Tryd.func153.trans (congrArg some (by kernel_rfl))
  f224 := Tryd.func157.trans (congrArg some (by kernel_rfl))
  f225 := Tryd.func156.trans (congrArg some (by kernel_rfl))
  f240 := Tryd.func124.trans (congrArg some (by kernel_rfl))
  f241 := Tryd.func152.trans (congrArg some (by kernel_rfl))
  f260 := Tryd.func154.trans (congrArg some (by kernel_rfl))
  f266 := Tryd.func141.trans (congrArg some (by kernel_rfl))
  f267 := Tryd.func158.trans (congrArg some (by kernel_rfl))
  f276 := Tryd.func140.trans (congrArg some (by kernel_rfl))
  f277 := Tryd.func155.trans (congrArg some (by kernel_rfl))
  f314 := Tryd.func159.trans (congrArg some (by kernel_rfl))
  t0 := Tryd.underlying0
  a0 := Tryd.isAgg0
  z0 := Tryd.sizeOf0
  v0 := Tryd.zeroValue0
  t3 := Tryd.underlying3
  a3 := Tryd.isAgg3
  z3 := Tryd.sizeOf3
  v3 := Tryd.zeroValue3
  t4 := Tryd.underlying4
  a4 := Tryd.isAgg4
  z4 := Tryd.sizeOf4
  v4 := Tryd.zeroValue4
  t5 := Tryd.underlying5
  a5 := Tryd.isAgg5
  z5 := Tryd.sizeOf5
  v5 := Tryd.zeroValue5
  t9 := Tryd.underlying9
  a9 := Tryd.isAgg9
  z9 := Tryd.sizeOf9
  v9 := Tryd.zeroValue9
  t20 := Tryd.underlying20
  a20 := Tryd.isAgg20
  z20 := Tryd.sizeOf20
  v20 := Tryd.zeroValue20
  t21 := Tryd.underlying21
  a21 := Tryd.isAgg21
  z21 := Tryd.sizeOf21
  v21 := Tryd.zeroValue21
  t37 := Tryd.underlying30
  a37 := Tryd.isAgg30
  z37 := Tryd.sizeOf30
  v37 := Tryd.zeroValue30
  t46 := Tryd.underlying64
  a46 := Tryd.isAgg64
  z46 := Tryd.sizeOf64
  v46 := Tryd.zeroValue64
  t51 := Tryd.underlying97
  a51 := Tryd.isAgg97
  z51 := Tryd.sizeOf97
  v51 := Tryd.zeroValue97
  t70 := Tryd.underlying89
  a70 := Tryd.isAgg89
  z70 := Tryd.sizeOf89
  v70 := Tryd.zeroValue89
  t72 := Tryd.underlying91
  a72 := Tryd.isAgg91
  z72 := Tryd.sizeOf91
  v72 := Tryd.zeroValue91
  t75 := Tryd.underlying93
  a75 := Tryd.isAgg93
  z75 := Tryd.sizeOf93
  v75 := Tryd.zeroValue93
  t76 := Tryd.underlying138
  a76 := Tryd.isAgg138
  z76 := Tryd.sizeOf138
  v76 := Tryd.zeroValue138
  t105 := Tryd.underlying149
  a105 := Tryd.isAgg149
  z105 := Tryd.sizeOf149
  v105 := Tryd.zeroValue149
  t119 := Tryd.underlying155
  a119 := Tryd.isAgg155
  z119 := Tryd.sizeOf155
  t127 := Tryd.underlying125
  a127 := Tryd.isAgg125
  z127 := Tryd.sizeOf125
  v127 := Tryd.zeroValue125
  t138 := Tryd.underlying157
  a138 := Tryd.isAgg157
  z138 := Tryd.sizeOf157
  v138 := Tryd.zeroValue157
  t139 := Tryd.underlying158
  a139 := Tryd.isAgg158
  z139 := Tryd.sizeOf158
  v139 := Tryd.zeroValue158
  t146 := Tryd.underlying151
  a146 := Tryd.isAgg151
  z146 := Tryd.sizeOf151
  v146 := Tryd.zeroValue151
  t164 := Tryd.underlying144
  a164 := Tryd.isAgg144
  z164 := Tryd.sizeOf144
  v164 := Tryd.zeroValue144
  g1 := by kernel_rfl
  g3 := by kernel_rfl
  g4 := by kernel_rfl }
theorem Tryd.Builder_Extra_155 : Builder.Extra Tryd.prog Tryd.lays155_ren := {
  sizeBuilder := by kernel_rfl
  liesBuilder := by kernel_rfl
  t5 := Tryd.underlying5
  a5 := Tryd.isAgg5
  z5 := Tryd.sizeOf5
  v5 := Tryd.zeroValue5
  infoByte := by kernel_rfl
  cellsByte := by kernel_rfl
  sizeByte := by kernel_rfl
  neB5 := by decide }
open Go.RowKit Go.Lib in
theorem Tryd.strings_ReplaceAll (s old new : ByteArray) (m : Int) (w : World) (hs : s.size < 4294967281) (hm : w.cell? ⟨4, 0, none⟩ = some (.int .i64 m)) (h1 : 1 ≤ old.size) (hlen : s.size + Lib.countB s old * new.size ≤ 140737488355328) :
    Calls Tryd.prog 101 #[.string s, .string old, .string new] w fun e w' =>
      e = .returned (.string ⟨(Lib.replaceAll s.data.toList old.data.toList new.data.toList).toArray⟩) ∧ Below w.heap.size w w' := Any.strings_ReplaceAll Tryd.lays155 Tryd.Builder_Extra_155 s old new m w hs hm h1 hlen
end Go.Proofs
end
section
set_option linter.unusedVariables false
set_option linter.unusedSimpArgs false
/- The library's contracts of (*strings.Builder).String and strings.IndexByte at this program's numbers. -/
set_option linter.unusedVariables false
namespace Go.Proofs
open Go.Shelf
def Tryd.lays137_ren : Go.Shelf.Ren := ⟨fun | 137 => 94 | 217 => 125 | 266 => 141 | n => n, fun | 9 => 9 | 5 => 5 | 3 => 3 | n => n, fun | n => n⟩
theorem Tryd.lays137 : Go.Proofs.Lays.n137 Tryd.prog Tryd.lays137_ren := {
  mixed := by kernel_rfl
  f137 := Tryd.func94.trans (congrArg some (by kernel_rfl))
  f217 := Tryd.func125.trans (congrArg some (by kernel_rfl))
  f266 := Tryd.func141.trans (congrArg some (by kernel_rfl))
  t3 := Tryd.underlying3
  a3 := Tryd.isAgg3
  z3 := Tryd.sizeOf3
  v3 := Tryd.zeroValue3
  t5 := Tryd.underlying5
  a5 := Tryd.isAgg5
  z5 := Tryd.sizeOf5
  v5 := Tryd.zeroValue5
  t9 := Tryd.underlying9
  a9 := Tryd.isAgg9
  z9 := Tryd.sizeOf9
  v9 := Tryd.zeroValue9 }
open Go.RowKit in
theorem Tryd.strings_IndexByte (s : ByteArray) (c : Int) (w : World) :
    Calls Tryd.prog 94 #[.string s, .int .u8 c] w fun e w' => e = .returned (.int .i64 (Lib.indexByte s.data.toList c.toNat.toUInt8)) ∧ w' = w := Any.strings_IndexByte Tryd.lays137 s c w
end Go.Proofs
end
section
set_option linter.unusedVariables false
set_option linter.unusedSimpArgs false
/- The contracts of strings.Builder's copyCheck, WriteByte and WriteString at this program: for every builder that the call itself has made. -/
namespace Go.Proofs.YtdgejkiackeieaaDoor
open Go.RowKit
theorem sizeBuilder : (Tryd.prog.info? 91).map (fun i => i.size) = some 2 := by kernel_rfl
theorem infoByte : (Tryd.prog.info? 5).map (fun i => (i.zero, i.size, i.bytes)) = some (some (.int .u8 0), 1, 1) := by kernel_rfl
end Go.Proofs.YtdgejkiackeieaaDoor
end
section
set_option linter.unusedVariables false
set_option linter.unusedSimpArgs false
/- The contracts of the writers of layer 2: Text, Int, Nums, Texts. -/
set_option linter.unusedVariables false
set_option linter.unusedSimpArgs false
namespace Go.Proofs.YtdgejkiackeieaaDoor
/-- The library's package-level variable that a search reads holds an int, in a block of the program's own. -/
structure MaxW (w : World) : Prop where mk :: (max : ∃ m : Int, w.cell? ⟨4, 0, none⟩ = some (.int .i64 m)) (five : 5 ≤ w.heap.size)
theorem MaxW.below {w w' : World} (h : MaxW w) (hb : RowKit.Below w.heap.size w w') : MaxW w' := by
  obtain ⟨⟨m, hm⟩, h5⟩ := h
  exact ⟨⟨m, by rw [hb.cell (p := ⟨4, 0, none⟩) (by show 4 < _; omega)]; exact hm⟩, Nat.le_trans h5 hb.size⟩
end Go.Proofs.YtdgejkiackeieaaDoor
namespace Go.Proofs.YtdgejkiackeieaaDoor.Wr
open Go.RowKit Go.Proofs.YtdgejkiackeieaaDoor Go.Proofs.YtdgejkiackeieaaDoor.PWr Go.Proofs.YtdgejkiackeieaaDoorW.PrintWords Go.Proofs.YtdgejkiackeieaaDoorW.PrintMore
theorem ret_s' {a b : ByteArray} (h : a = b) : Ending.returned (.string a) = .returned (.string b) := by rw [h]
theorem Repl_any (s old new : ByteArray) (w : World) (hM : MaxW w) (hs : s.size ≤ 10000000) (ho : 1 ≤ old.size) (hn : new.size ≤ 1000) :
    Calls Tryd.prog 101 #[.string s, .string old, .string new] w fun e w' => e = .returned (.string (mkB (Lib.replaceAll s.data.toList old.data.toList new.data.toList))) ∧ Below w.heap.size w w' := by
  obtain ⟨⟨m, hm⟩, h5⟩ := hM
  have hc := Lib.countB_mul_le old ho s.size s (Nat.le_refl _)
  have h1 : Lib.countB s old ≤ s.size := Nat.le_trans (Nat.le_mul_of_pos_right _ ho) hc
  have h2 : Lib.countB s old * new.size ≤ 10000000 * 1000 := Nat.mul_le_mul (by omega) hn
  exact Tryd.strings_ReplaceAll s old new m w (by omega) hm ho (by omega)
end Go.Proofs.YtdgejkiackeieaaDoor.Wr
end
section
set_option linter.unusedVariables false
set_option linter.unusedSimpArgs false
/- What the rows of the other laws need: the world's shape beside the laid tables, and how slices are opened. -/
set_option linter.unusedVariables false
namespace Go.Proofs.YtdgejkiackeieaaDoor
open Go.RowKit Go.ChangeShapes
theorem returns_shaped {H : Type} {enc : TypeId × Value → H} {a : Assume} {C : Checked} {os : Os} {f : FuncId} {fn : Func} {s : ChangeSpec} {conds : List PathCond} {apart fresh handsOn again : Bool} {X : World → Array Value → Prop}
    (hX : ∀ (w w' : World) (args : Array Value), w.heap = w'.heap → X w args → X w' args)
    (own : ownKnob C.prog.godebug = none) (started : os.Started) (noInit : C.prog.inits.idxOf? f = none) (hfn : C.prog.funcs[f]? = some fn)
    (witness : ∃ (w : World) (tape : Tape) (i : Input), w.os = os ∧ (w.forCall tape i).Shaped C.prog ∧ i.vars = [] ∧ Input.okWide C.prog (w.forCall tape i) .any w.heap.size f i ∧
      ((s.pre enc C.prog fn conds apart (w.forCall tape i).memory i.args ∧ X (w.forCall tape i).memory i.args) ∧ sizedMet enc C.prog fn (OpenSpec.ofChange s) apart (w.forCall tape i).memory i.args) ∧ a.holds C.prog (lone (Frame.enter C.prog f i.args .normal) [] (w.forCall tape i)))
    (contract : ∀ (W : World) (base : Nat) (args : Array Value) (ds gs : List (DataW H)) (before : List MemPlace),
      (∀ (j : Nat) t v, fn.params[j]? = some t → args[j]? = some v → Value.okWide C.prog W .any base t v) →
      DataW.Whole enc C.prog fn.params.toList s.vars apart W args.toList ds gs before →
      conds.all (PathCond.test C.prog ⟨fn.params.toList, ds, s.plain.varTypes C.prog, gs⟩) = true →
      (DataW.weightsEach C.prog (fn.params.toList ++ s.plain.varTypes C.prog) (ds ++ gs)).all (· ≤ reachBytes) = true → X W args →
      W.ShapedOpen C.prog →
      Calls C.prog f args W fun e W' => ∃ v, e = .returned v ∧ s.post enc C.prog fn apart fresh handsOn again W args v W') :
    ReturnsInHanded a C os f .any (fun w args => (s.pre enc C.prog fn conds apart w args ∧ X w args) ∧ sizedMet enc C.prog fn (OpenSpec.ofChange s) apart w args) (s.post enc C.prog fn apart fresh handsOn again) := by
  refine returnsInHanded_of_calls own started noInit witness ?_
  intro w tape i _ hsh _ hok hpre hholds
  obtain ⟨_, _, _, fn', hfn', _, _, _, _, hval⟩ := hok
  have e : fn' = fn := Option.some.inj (hfn'.symm.trans hfn)
  subst e
  obtain ⟨⟨⟨ds, gs, before, hw, hc⟩, hx⟩, hz⟩ := hpre
  have hw' := DataW.Whole.of_heap (w' := w.forCall tape i) (by rfl) hw
  refine (contract (w.forCall tape i) w.heap.size i.args ds gs before hval hw' hc (hz.weights hw) (hX _ _ _ (by rfl) hx) hsh).mono fun e W' ⟨v, he, hp⟩ => ?_
  subst he
  exact ChangeSpec.post_blind hp
theorem maxw_of_shape {W : World} (hsh : W.ShapedOpen Tryd.prog) : MaxW W := by
  obtain ⟨m, hm⟩ := cell_of_shapedOpen_int (P := Tryd.prog) (g := 4) (t := 3) (zero := #[.int .i64 0]) hsh (of_decide_eq_true (by kernel_rfl)) (by kernel_rfl) rfl (by kernel_rfl) (by kernel_rfl) Tryd.underlying3
  exact ⟨⟨m, hm⟩, World.block_lt_of_cell? W _ hm⟩
end Go.Proofs.YtdgejkiackeieaaDoor
end
section
set_option linter.unusedVariables false
set_option linter.unusedSimpArgs false
/- The contract of digest's Hex. -/
set_option linter.unusedVariables false
set_option linter.unusedSimpArgs false
namespace Go.Proofs.YtdgejkiackeieaaDoor
open Go.RowKit
/-- The digit of a number below 16. -/
def dig (n : Nat) : UInt8 := if n < 10 then UInt8.ofNat (48 + n) else UInt8.ofNat (87 + n)
end Go.Proofs.YtdgejkiackeieaaDoor
end
section
set_option linter.unusedVariables false
set_option linter.unusedSimpArgs false
/- The contract of digest's Unhex. -/
set_option linter.unusedVariables false
set_option linter.unusedSimpArgs false
namespace Go.Proofs.YtdgejkiackeieaaDoor
open Go.RowKit
abbrev digitsB : ByteArray := { data := #[48, 49, 50, 51, 52, 53, 54, 55, 56, 57, 97, 98, 99, 100, 101, 102] }
/-- The number of a digit, or -1. -/
def hv (c : UInt8) : Int := Lib.indexByte digitsB.data.toList c
end Go.Proofs.YtdgejkiackeieaaDoor
end
section
set_option linter.unusedVariables false
set_option linter.unusedSimpArgs false
/- Arrays of whole numbers in a block of their own; a store into one. -/
set_option linter.unusedVariables false
set_option linter.unusedSimpArgs false
namespace Go.Proofs.YtdgejkiackeieaaDoor
open Go.RowKit Go.Proofs.YtdgejkiackeieaaDoorW.PrintLast
/-- An array of whole numbers in a block of its own. -/
def Arr (k : IntKind) (T : TypeId) (w : World) (g : Nat) (xs : List Int) : Prop := w.heap[g]? = some (.cells (xs.map (Value.int k)).toArray T (0, 0))
def el (xs : List Int) (i : Nat) : Int := xs.getD i 0
theorem Arr.cell {k T w g xs} (h : Arr k T w g xs) (i : Nat) (hi : i < xs.length) : w.cell? ⟨g, i, none⟩ = some (.int k (el xs i)) := by
  rw [Lib.cell_of_heap h]; simp [hi, el]
theorem Arr.frozen {k T w g xs} (h : Arr k T w g xs) (i : Nat) : w.frozen? ⟨g, i, none⟩ = false := Lib.frozen_of_heap h i
theorem Arr.set {k T w g xs} (h : Arr k T w g xs) (i : Nat) (x : Int) : Arr k T (w.setCell ⟨g, i, none⟩ (.int k x)) g (xs.set i x) := by
  unfold Arr at *
  simp [World.setCell, Array.getElem?_modify, h, List.map_set]
/-- Only the block g may have changed. -/
structure Only (g : Nat) (w w' : World) : Prop where
  os : w'.os = w.os
  tape : w'.tape = w.tape
  output : w'.output = w.output
  size : w'.heap.size = w.heap.size
  block : ∀ k, k ≠ g → w'.heap[k]? = w.heap[k]?
theorem Only.refl (g : Nat) (w : World) : Only g w w := ⟨rfl, rfl, rfl, rfl, fun _ _ => rfl⟩
theorem Only.trans {g : Nat} {a b c : World} (h : Only g a b) (k : Only g b c) : Only g a c :=
  ⟨k.os.trans h.os, k.tape.trans h.tape, k.output.trans h.output, k.size.trans h.size, fun i hi => (k.block i hi).trans (h.block i hi)⟩
theorem Only.set (g : Nat) (w : World) (i : Nat) (v : Value) : Only g w (w.setCell ⟨g, i, none⟩ v) :=
  ⟨rfl, rfl, rfl, by simp [World.setCell], fun k hk => Below.heap_setCell _ _ _ _ hk⟩
theorem Only.drew {g : Nat} {w w' : World} (h : Only g w w') : Only g w w'.drew := ⟨h.os, h.tape, h.output, h.size, h.block⟩
theorem Only.below {g B : Nat} {w w' : World} (h : Only g w w') (hB : B ≤ g) : Below B w w' :=
  ⟨h.os, h.tape, h.output, Nat.le_of_eq h.size.symm, fun k hk => h.block k (by omega)⟩
end Go.Proofs.YtdgejkiackeieaaDoor
end
section
set_option linter.unusedVariables false
set_option linter.unusedSimpArgs false
/- The contract of digest's mix (the function G). -/
set_option linter.unusedVariables false
set_option linter.unusedSimpArgs false
namespace Go.Proofs.YtdgejkiackeieaaDoor
open Go.RowKit Go.Proofs.YtdgejkiackeieaaDoorW.PrintLast
end Go.Proofs.YtdgejkiackeieaaDoor
end
section
set_option linter.unusedVariables false
set_option linter.unusedSimpArgs false
/- The contract of digest's words: the sixteen words of a block of at most 64 bytes. -/
set_option linter.unusedVariables false
set_option linter.unusedSimpArgs false
namespace Go.Proofs.YtdgejkiackeieaaDoor
open Go.RowKit Go.Proofs.YtdgejkiackeieaaDoorW.PrintLast
end Go.Proofs.YtdgejkiackeieaaDoor
end
section
set_option linter.unusedVariables false
set_option linter.unusedSimpArgs false
/- What digest's compress computes, in plain words; what its blocks hold. -/
set_option linter.unusedVariables false
set_option linter.unusedSimpArgs false
namespace Go.Proofs.YtdgejkiackeieaaDoor
open Go.RowKit Go.Proofs.YtdgejkiackeieaaDoorW.PrintLast
def firstI : List Int := [1779033703, 3144134277, 1013904242, 2773480762, 1359893119, 2600822924, 528734635, 1541459225]
def ordersN : List Nat := [0, 1, 2, 3, 4, 5, 6, 7, 8, 9, 10, 11, 12, 13, 14, 15,
  14, 10, 4, 8, 9, 15, 13, 6, 1, 12, 0, 2, 11, 7, 5, 3,
  11, 8, 12, 0, 5, 2, 15, 13, 10, 14, 3, 6, 7, 1, 9, 4,
  7, 9, 3, 1, 13, 12, 11, 14, 2, 6, 5, 10, 4, 0, 15, 8,
  9, 0, 5, 7, 2, 4, 10, 15, 14, 1, 11, 12, 6, 8, 3, 13,
  2, 12, 6, 10, 0, 11, 8, 3, 4, 13, 7, 5, 15, 14, 1, 9,
  12, 5, 1, 15, 14, 13, 4, 10, 0, 7, 6, 3, 9, 2, 8, 11,
  13, 11, 7, 14, 12, 1, 3, 9, 5, 0, 15, 4, 8, 6, 2, 10,
  6, 15, 14, 9, 11, 3, 0, 8, 12, 2, 13, 7, 1, 4, 10, 5,
  10, 2, 8, 4, 7, 6, 1, 5, 15, 11, 9, 14, 3, 12, 13, 0]
/-- The tables of package digest hold their initial data. -/
structure DigOk (w : World) : Prop where
  first : ∃ t fr, w.heap[0]? = some (.cells (firstI.map (Value.int .u32)).toArray t fr)
  orders : ∃ t fr, w.heap[1]? = some (.cells (ordersN.map (fun (n : Nat) => Value.int .u8 (n : Int))).toArray t fr)
theorem DigOk.below {w w' : World} (h : DigOk w) (hb : Below w.heap.size w w') : DigOk w' := by
  obtain ⟨⟨t, fr, h0⟩, ⟨t1, fr1, h1⟩⟩ := h
  exact ⟨⟨t, fr, (hb.block 0 (Array.getElem?_eq_some_iff.1 h0).1).trans h0⟩, ⟨t1, fr1, (hb.block 1 (Array.getElem?_eq_some_iff.1 h1).1).trans h1⟩⟩
/-- What the blocks of compress hold: the state, the result, the words of the block, the working words. -/
structure CW (w W : World) (g9 : Nat) (H R M V : List Int) : Prop where
  h : Arr .u32 98 W w.heap.size H
  r : Arr .u32 98 W (w.heap.size + 1) R
  m : Arr .u32 126 W g9 M
  v : Arr .u32 126 W (g9 + 1) V
  dig : DigOk W
  below : Below w.heap.size w W
  lt : w.heap.size + 1 < g9
  two : 2 ≤ w.heap.size
theorem Arr.below {k T w g xs w'} (h : Arr k T w g xs) {B : Nat} (hb : Below B w w') (hg : g < B) : Arr k T w' g xs := (hb.block g hg).trans h
theorem DigOk.below' {w w' : World} (h : DigOk w) {B : Nat} (hb : Below B w w') (hB : 2 ≤ B) : DigOk w' := by
  obtain ⟨⟨t, fr, h0⟩, ⟨t1, fr1, h1⟩⟩ := h
  exact ⟨⟨t, fr, (hb.block 0 (by omega)).trans h0⟩, ⟨t1, fr1, (hb.block 1 (by omega)).trans h1⟩⟩
/-- The working words alone have changed. -/
theorem CW.setV {w W W' : World} {g9 : Nat} {H R M V V' : List Int} (c : CW w W g9 H R M V) (hb : Below (g9 + 1) W W') (hv : Arr .u32 126 W' (g9 + 1) V') : CW w W' g9 H R M V' :=
  ⟨c.h.below hb (by have := c.lt; omega), c.r.below hb (by have := c.lt; omega), c.m.below hb (by omega), hv, c.dig.below' hb (by have := c.lt; have := c.two; omega), c.below.trans (hb.mono (by have := c.lt; omega)), c.lt, c.two⟩
/-- New blocks alone. -/
theorem CW.more {w W W' : World} {g9 : Nat} {H R M V : List Int} (c : CW w W g9 H R M V) (hb : Below W.heap.size W W') : CW w W' g9 H R M V := by
  have hl : g9 + 1 < W.heap.size := (Array.getElem?_eq_some_iff.1 c.v).1
  exact c.setV (hb.mono (by omega)) (c.v.below hb hl)
theorem CW.put {w W : World} {g9 : Nat} {H R M V : List Int} (c : CW w W g9 H R M V) (i : Nat) (x : Int) : CW w (W.setCell ⟨g9 + 1, i, none⟩ (.int .u32 x)) g9 H R M (V.set i x) :=
  c.setV ((Below.refl (g9 + 1) W).setCell (p := ⟨g9 + 1, i, none⟩) (Nat.le_refl _) _) (c.v.set i x)
end Go.Proofs.YtdgejkiackeieaaDoor
end
section
set_option linter.unusedVariables false
set_option linter.unusedSimpArgs false
/- The contract of digest's compress. -/
set_option linter.unusedVariables false
set_option linter.unusedSimpArgs false
namespace Go.Proofs.YtdgejkiackeieaaDoor
open Go.RowKit Go.Proofs.YtdgejkiackeieaaDoorW.PrintLast
end Go.Proofs.YtdgejkiackeieaaDoor
end
section
set_option linter.unusedVariables false
set_option linter.unusedSimpArgs false
/- The contract of digest's Sum. -/
set_option linter.unusedVariables false
set_option linter.unusedSimpArgs false
namespace Go.Proofs.YtdgejkiackeieaaDoor
open Go.RowKit Go.Proofs.YtdgejkiackeieaaDoorW.PrintLast
end Go.Proofs.YtdgejkiackeieaaDoor
end
section
set_option linter.unusedVariables false
set_option linter.unusedSimpArgs false
/- The contracts of digest's Hex, Unhex and Sum in the form that the printed callers take. -/
set_option linter.unusedVariables false
namespace Go.Proofs.YtdgejkiackeieaaDoor
open Go.RowKit
/-- The tables of package digest hold their initial data, in blocks of the program's own. -/
structure DigW (w : World) : Prop where mk :: (ok : DigOk w) (two : 2 ≤ w.heap.size)
theorem DigW.below {w w' : World} (h : DigW w) (hb : Below w.heap.size w w') : DigW w' := ⟨h.ok.below hb, Nat.le_trans h.two hb.size⟩
end Go.Proofs.YtdgejkiackeieaaDoor
end
section
set_option linter.unusedVariables false
set_option linter.unusedSimpArgs false
/- What the laid tables give: the digest's two tables lie in the heap as the specs name them. -/
set_option linter.unusedVariables false
namespace Go.Proofs.YtdgejkiackeieaaDoor
open Go.RowKit Go.ChangeShapes
end Go.Proofs.YtdgejkiackeieaaDoor
end
section
set_option linter.unusedVariables false
set_option linter.unusedSimpArgs false
/- The contract of the reader's Text (layer 2). -/
set_option linter.unusedVariables false
set_option linter.unusedSimpArgs false
namespace Go.Proofs.YtdgejkiackeieaaDoor.Wr
open Go.RowKit Go.Proofs.YtdgejkiackeieaaDoor Go.Proofs.YtdgejkiackeieaaDoor.PWr Go.Proofs.YtdgejkiackeieaaDoorW.PrintWords Go.Proofs.YtdgejkiackeieaaDoorW.PrintMore
/-- What a call leaves of the world: the reader's block apart, all that was there is as it was. -/
structure Lf (w0 w w' : World) (g : Nat) (s : ByteArray) (bad : Bool) : Prop where
  is : IsS117 w0 w' g s bad
  below : Below w0.heap.size w0 w'
  keep : KeepBut w w' g none
theorem KeepBut.trans_ {w w1 w2 : World} {g : Nat} (h : KeepBut w w1 g none) (k : KeepBut w1 w2 g none) : KeepBut w w2 g none := h.trans k (Or.inl rfl)
theorem Lf.trans {w0 w w1 w2 : World} {g : Nat} {s t : ByteArray} {bad bad' : Bool} (h : Lf w0 w w1 g s bad) (k : Lf w0 w1 w2 g t bad') : Lf w0 w w2 g t bad' := ⟨k.is, k.below, KeepBut.trans_ h.keep k.keep⟩
theorem Lf.more {w0 w w1 w2 : World} {g : Nat} {s : ByteArray} {bad : Bool} (h : Lf w0 w w1 g s bad) (B : Nat) (hB : w1.heap.size ≤ B ∨ (w.heap.size ≤ B ∧ g < B)) (hb : Below B w1 w2) : Lf w0 w w2 g s bad := by
  have hg : g < w1.heap.size := h.is.lt
  have hge := h.is.ge
  have hk := h.keep.1
  have hw0 := h.below.size
  refine ⟨⟨(hb.block g (by rcases hB with h | h <;> omega)).trans h.is.1, h.is.2⟩, h.below.trans (hb.mono (by rcases hB with h | h <;> omega)), ?_⟩
  refine ⟨Nat.le_trans hk hb.size, fun i hi hig _ => ?_⟩
  rw [hb.block i (by rcases hB with h | h <;> omega)]
  exact h.keep.2 i hi hig (by simp)
theorem Lf.old {w0 w w' : World} {g : Nat} {s : ByteArray} {bad : Bool} (h : Lf w0 w w' g s bad) (B : Nat) (hg : g < B) : ∀ k, B ≤ k → k < w.heap.size → w'.heap[k]? = w.heap[k]? := fun k hk hlt => h.keep.2 k hlt (by omega) (by simp)
end Go.Proofs.YtdgejkiackeieaaDoor.Wr
end
section
set_option linter.unusedVariables false
set_option linter.unusedSimpArgs false
/- The contracts of the readers of lists (layer 2). -/
set_option linter.unusedVariables false
set_option linter.unusedSimpArgs false
namespace Go.Proofs.YtdgejkiackeieaaDoor.Wr
open Go.RowKit Go.Proofs.YtdgejkiackeieaaDoor Go.Proofs.YtdgejkiackeieaaDoor.PWr Go.Proofs.YtdgejkiackeieaaDoorW.PrintWords Go.Proofs.YtdgejkiackeieaaDoorW.PrintMore
theorem Okr.cons {s : ByteArray} {bad : Bool} (h : Okr s bad) {c : UInt8} {t : List UInt8} (hl : s.data.toList = c :: t) : bad = false := by
  cases bad with
  | false => rfl
  | true => rw [h rfl] at hl; cases hl
theorem info9 : (Tryd.prog.info? 9).map (fun i => (i.zero, i.size, i.bytes)) = some (some (.string ⟨#[]⟩), 1, 16) := by kernel_rfl
end Go.Proofs.YtdgejkiackeieaaDoor.Wr
end
section
set_option linter.unusedVariables false
set_option linter.unusedSimpArgs false
/- The contract of the reference's reader's Int, Num, Nums (layer 2). -/
set_option linter.unusedVariables false
set_option linter.unusedSimpArgs false
namespace Go.Proofs.YtdgejkiackeieaaDoor.Wr
open Go.RowKit Go.Proofs.YtdgejkiackeieaaDoor Go.Proofs.YtdgejkiackeieaaDoor.PWr Go.Proofs.YtdgejkiackeieaaDoorW.PrintWords Go.Proofs.YtdgejkiackeieaaDoorW.PrintMore Go.Proofs.YtdgejkiackeieaaDoorW.PrintLast
/-- What a call leaves of the world: the reference's reader's block apart, all that was there is as it was. -/
structure Lg (w0 w w' : World) (g : Nat) (s : ByteArray) (bad : Bool) : Prop where
  is : IsS119 w0 w' g s bad
  below : Below w0.heap.size w0 w'
  keep : KeepBut w w' g none
theorem Lg.trans {w0 w w1 w2 : World} {g : Nat} {s t : ByteArray} {bad bad' : Bool} (h : Lg w0 w w1 g s bad) (k : Lg w0 w1 w2 g t bad') : Lg w0 w w2 g t bad' := ⟨k.is, k.below, KeepBut.trans_ h.keep k.keep⟩
theorem Lg.more {w0 w w1 w2 : World} {g : Nat} {s : ByteArray} {bad : Bool} (h : Lg w0 w w1 g s bad) (B : Nat) (hB : w1.heap.size ≤ B ∨ (w.heap.size ≤ B ∧ g < B)) (hb : Below B w1 w2) : Lg w0 w w2 g s bad := by
  have hg : g < w1.heap.size := h.is.lt
  have hge := h.is.ge
  have hk := h.keep.1
  have hw0 := h.below.size
  refine ⟨⟨(hb.block g (by rcases hB with h | h <;> omega)).trans h.is.1, h.is.2⟩, h.below.trans (hb.mono (by rcases hB with h | h <;> omega)), ?_⟩
  refine ⟨Nat.le_trans hk hb.size, fun i hi hig _ => ?_⟩
  rw [hb.block i (by rcases hB with h | h <;> omega)]
  exact h.keep.2 i hi hig (by simp)
theorem Lg.old {w0 w w' : World} {g : Nat} {s : ByteArray} {bad : Bool} (h : Lg w0 w w' g s bad) (B : Nat) (hg : g < B) : ∀ k, B ≤ k → k < w.heap.size → w'.heap[k]? = w.heap[k]? := fun k hk hlt => h.keep.2 k hlt (by omega) (by simp)
end Go.Proofs.YtdgejkiackeieaaDoor.Wr
end
section
set_option linter.unusedVariables false
set_option linter.unusedSimpArgs false
/- The rest of the contracts of both readers (layer 2): Int, Num, Nums, Left, Done, Open. -/
set_option linter.unusedVariables false
set_option linter.unusedSimpArgs false
namespace Go.Proofs.YtdgejkiackeieaaDoor.Wr
open Go.RowKit Go.Proofs.YtdgejkiackeieaaDoor Go.Proofs.YtdgejkiackeieaaDoor.PWr Go.Proofs.YtdgejkiackeieaaDoorW.PrintWords Go.Proofs.YtdgejkiackeieaaDoorW.PrintMore Go.Proofs.YtdgejkiackeieaaDoorW.PrintLast
end Go.Proofs.YtdgejkiackeieaaDoor.Wr
end
section
set_option linter.unusedVariables false
set_option linter.unusedSimpArgs false
/- The fixed example of layer 2's laws, and wire.Num. -/
set_option linter.unusedVariables false
set_option linter.unusedSimpArgs false
namespace Go.Proofs.YtdgejkiackeieaaDoor.Wr
open Go.RowKit Go.Proofs.YtdgejkiackeieaaDoor Go.Proofs.YtdgejkiackeieaaDoor.PWr Go.Proofs.YtdgejkiackeieaaDoorW.PrintWords Go.Proofs.YtdgejkiackeieaaDoorW.PrintMore Go.Proofs.YtdgejkiackeieaaDoorW.PrintLast
end Go.Proofs.YtdgejkiackeieaaDoor.Wr
end
section
set_option linter.unusedVariables false
set_option linter.unusedSimpArgs false
/- Layer 24: the numbers of a telegram. -/
set_option linter.unusedVariables false
set_option linter.unusedSimpArgs false
namespace Go.Proofs.YtdgejkiackeieaaDoor.Gm
open Go.RowKit Go.Proofs.YtdgejkiackeieaaDoor Go.Proofs.YtdgejkiackeieaaDoor.Wr Go.Proofs.YtdgejkiackeieaaDoorW.PrintWords Go.Proofs.YtdgejkiackeieaaDoorW.PrintMore Go.Proofs.YtdgejkiackeieaaDoorW.PrintLast
attribute [local go_sem] max2_int min2_int
/-- The limits of the numbers, as the program lays them. -/
structure LimW (w : World) : Prop where mk ::
  (high : ∃ u fr, w.heap[2]? = some (.cells #[.int .i64 127, .int .i64 1099511627776, .int .i64 1006633019, .int .i64 1099511627776] u fr))
  (low : ∃ u fr, w.heap[3]? = some (.cells #[.int .i64 0, .int .i64 0, .int .i64 0, .int .i64 (-1099511627776)] u fr))
theorem LimW.below {w w' : World} {B : Nat} (h : LimW w) (hb : Below B w w') (hB : 4 ≤ B) (h4 : 4 ≤ w.heap.size) : LimW w' := by
  obtain ⟨⟨u1, f1, h1⟩, ⟨u2, f2, h2⟩⟩ := h
  exact ⟨⟨u1, f1, (hb.block 2 (by omega)).trans h1⟩, ⟨u2, f2, (hb.block 3 (by omega)).trans h2⟩⟩
end Go.Proofs.YtdgejkiackeieaaDoor.Gm
end
section
set_option linter.unusedVariables false
set_option linter.unusedSimpArgs false
/- How the arguments of the laws are opened: a telegram, slices of telegrams, of values, of strings. -/
set_option linter.unusedVariables false
set_option linter.unusedSimpArgs false
namespace Go.Proofs.YtdgejkiackeieaaDoor
open Go.RowKit Go.ChangeShapes Go.WideShapes Go.Proofs.YtdgejkiackeieaaDoor.Wr Go.Proofs.YtdgejkiackeieaaDoorW.PrintWords
theorem c3 : Tryd.prog.cellsOf 3 = 1 := by kernel_rfl
theorem c9 : Tryd.prog.cellsOf 9 = 1 := by kernel_rfl
section
variable {H : Type} {enc : TypeId × Value → H} {W : World}
/-- A telegram. -/
structure G5 where
  a : Int
  b : Int
  c : Int
  d : Int
  t : ByteArray
def G5.ok (g : G5) : Prop := InR g.a ∧ InR g.b ∧ InR g.c ∧ InR g.d
/-- A slice of structs of five cells, as its elements' cells say. -/
def Reads5 {α : Type} (R : World → α → List Value → Prop) (w : World) (A : Option Addr) (l : List α) : Prop :=
  ∀ (i : Nat) (h : i < l.length), ∃ ad cs, A = some ad ∧ R w l[i] cs ∧ cs.length = 5 ∧ ∀ j, j < 5 → w.cell? (ad.add (i * 5 + j)) = cs[j]?
theorem Reads5.below {α : Type} {R : World → α → List Value → Prop} {w w' : World} {A : Option Addr} {l : List α} (h : Reads5 R w A l) (hR : ∀ x cs, R w x cs → R w' x cs) (hb : Below w.heap.size w w') : Reads5 R w' A l := by
  intro i hi
  obtain ⟨ad, cs, e, hr, hl, hc⟩ := h i hi
  refine ⟨ad, cs, e, hR _ _ hr, hl, fun j hj => ?_⟩
  have := hc j hj
  rw [List.getElem?_eq_getElem (by omega)] at this ⊢
  exact pw_cell_below hb this
/-! ### numbers and strings in a slice's cell -/
/-- A value of layer 2's laws. -/
structure V5 where
  k : Int
  n : Int
  s : ByteArray
  la : Option Addr
  lc : Nat
  l : List Int
  ta : Option Addr
  tc : Nat
  t : List ByteArray
structure V5.ok (w : World) (v : V5) : Prop where
  ik : InR v.k
  im : InR v.n
  cl : Kd.C (Kd.int .i64) w v.la v.l.length v.l
  il : ∀ x ∈ v.l, InR x
  ll : v.l.length ≤ v.lc
  ct : Kd.C Kd.string w v.ta v.t.length v.t
  lt : v.t.length ≤ v.tc
theorem V5.ok.below {w w' : World} {v : V5} (h : v.ok w) (hb : Below w.heap.size w w') : v.ok w' := ⟨h.ik, h.im, Kd.C_below h.cl hb, h.il, h.ll, Kd.C_below h.ct hb, h.lt⟩
end
/-! ### the limits of a telegram's numbers -/
end Go.Proofs.YtdgejkiackeieaaDoor
end
section
set_option linter.unusedVariables false
set_option linter.unusedSimpArgs false
/- The frames of layer 23 in plain words: bodies, escapes, stretches, and how a stream is decoded. No program in sight. -/
set_option linter.unusedVariables false
set_option linter.unusedSimpArgs false
namespace Go.Proofs.YtdgejkiackeieaaDoor.Fr
open Go.Proofs.YtdgejkiackeieaaDoor
/-- The escaped form. -/
def escB (l : List UInt8) : List UInt8 := l.flatMap fun c => if c = 125 then [125, 93] else if c = 126 then [125, 94] else [c]
theorem escB_nil : escB [] = [] := rfl
theorem escB_cons (c : UInt8) (l : List UInt8) : escB (c :: l) = (if c = 125 then [125, 93] else if c = 126 then [125, 94] else [c]) ++ escB l := by simp [escB]
theorem escB_append (a b : List UInt8) : escB (a ++ b) = escB a ++ escB b := by simp [escB]
theorem escB_length (l : List UInt8) : l.length ≤ (escB l).length ∧ (escB l).length ≤ 2 * l.length := by
  induction l with
  | nil => exact ⟨Nat.le_refl _, Nat.le_refl _⟩
  | cons c l ih =>
    rw [escB_cons, List.length_append, List.length_cons]
    by_cases h1 : c = 125
    · rw [if_pos h1]; simp; omega
    · rw [if_neg h1]
      by_cases h2 : c = 126
      · rw [if_pos h2]; simp; omega
      · rw [if_neg h2]; simp; omega
theorem escB_flag (l : List UInt8) : 126 ∉ escB l := by
  induction l with
  | nil => simp [escB]
  | cons c l ih =>
    rw [escB_cons, List.mem_append]
    rintro (h | h)
    · by_cases h1 : c = 125
      · rw [if_pos h1] at h; revert h; decide
      · rw [if_neg h1] at h
        by_cases h2 : c = 126
        · rw [if_pos h2] at h; revert h; decide
        · rw [if_neg h2] at h; exact h2 (List.mem_singleton.1 h).symm
    · exact ih h
/-- Two replacements in a row, as the program escapes. -/
theorem esc_two (l : List UInt8) : Lib.replaceAll (Lib.replaceAll l [125] [125, 93]) [126] [125, 94] = escB l := by
  rw [replaceAll_one, replaceAll_one, List.flatMap_assoc]
  unfold escB
  congr 1
  funext c
  by_cases h1 : c = 125
  · rw [if_pos h1, if_pos h1]; rfl
  · rw [if_neg h1, if_neg h1]
    by_cases h2 : c = 126
    · subst h2; rfl
    · rw [if_neg h2]; simp [h2]
/-- The half of the escapes. -/
def escH (l : List UInt8) : List UInt8 := l.flatMap fun c => if c = 125 then [125, 93] else [c]
theorem escH_cons (c : UInt8) (l : List UInt8) : escH (c :: l) = (if c = 125 then [125, 93] else [c]) ++ escH l := by simp [escH]
theorem scan_pair_miss (a b : UInt8) (new : List UInt8) (f : Nat) (c : UInt8) (l : List UInt8) (h : ¬ (c = a ∧ l.head? = some b)) : scan [a, b] new (f + 1) (c :: l) = c :: scan [a, b] new f l := by
  rw [scan, if_neg]
  intro hp
  apply h
  cases l with
  | nil => simp [List.isPrefixOf] at hp
  | cons d l =>
    simp [List.isPrefixOf] at hp
    exact ⟨hp.1.symm, by simp [hp.2]⟩
theorem scan_pair_hit (a b : UInt8) (new : List UInt8) (f : Nat) (l : List UInt8) : scan [a, b] new (f + 1) (a :: b :: l) = new ++ scan [a, b] new f l := by
  rw [scan, if_pos (by simp [List.isPrefixOf])]
  rfl
theorem scan_one (l : List UInt8) : ∀ f, (escB l).length ≤ f → scan [125, 94] [126] f (escB l) = escH l := by
  induction l with
  | nil => intro f _; exact scan_nil _ _ _
  | cons c l ih =>
    intro f hf
    rw [escB_cons, List.length_append] at hf
    rw [escB_cons, escH_cons]
    by_cases h1 : c = 125
    · rw [if_pos h1] at hf ⊢
      rw [if_pos h1]
      simp only [List.length_cons, List.length_nil] at hf
      obtain ⟨f, rfl⟩ : ∃ m, f = m + 2 := ⟨f - 2, by omega⟩
      show scan [125, 94] [126] (f + 2) (125 :: 93 :: escB l) = 125 :: 93 :: escH l
      rw [scan_pair_miss _ _ _ _ _ _ (by simp), scan_pair_miss _ _ _ _ _ _ (by simp), ih f (by omega)]
    · rw [if_neg h1] at hf ⊢
      rw [if_neg h1]
      by_cases h2 : c = 126
      · rw [if_pos h2] at hf ⊢
        subst h2
        simp only [List.length_cons, List.length_nil] at hf
        obtain ⟨f, rfl⟩ : ∃ m, f = m + 1 := ⟨f - 1, by omega⟩
        show scan [125, 94] [126] (f + 1) (125 :: 94 :: escB l) = 126 :: escH l
        rw [scan_pair_hit, ih f (by omega)]; rfl
      · rw [if_neg h2] at hf ⊢
        simp only [List.length_cons, List.length_nil] at hf
        obtain ⟨f, rfl⟩ : ∃ m, f = m + 1 := ⟨f - 1, by omega⟩
        show scan [125, 94] [126] (f + 1) (c :: escB l) = c :: escH l
        rw [scan_pair_miss _ _ _ _ _ _ (by simp [h1]), ih f (by omega)]
theorem scan_two (l : List UInt8) : ∀ f, (escH l).length ≤ f → scan [125, 93] [125] f (escH l) = l := by
  induction l with
  | nil => intro f _; exact scan_nil _ _ _
  | cons c l ih =>
    intro f hf
    rw [escH_cons, List.length_append] at hf
    rw [escH_cons]
    by_cases h1 : c = 125
    · rw [if_pos h1] at hf ⊢
      subst h1
      simp only [List.length_cons, List.length_nil] at hf
      obtain ⟨f, rfl⟩ : ∃ m, f = m + 1 := ⟨f - 1, by omega⟩
      show scan [125, 93] [125] (f + 1) (125 :: 93 :: escH l) = 125 :: l
      rw [scan_pair_hit, ih f (by omega)]; rfl
    · rw [if_neg h1] at hf ⊢
      simp only [List.length_cons, List.length_nil] at hf
      obtain ⟨f, rfl⟩ : ∃ m, f = m + 1 := ⟨f - 1, by omega⟩
      show scan [125, 93] [125] (f + 1) (c :: escH l) = c :: l
      rw [scan_pair_miss _ _ _ _ _ _ (by simp [h1]), ih f (by omega)]
/-- How a stretch is read back. -/
def unescB (s : List UInt8) : List UInt8 := Lib.replaceAll (Lib.replaceAll s [125, 94] [126]) [125, 93] [125]
theorem unesc_esc (l : List UInt8) : unescB (escB l) = l := by
  unfold unescB
  rw [replaceAll_scan _ _ _ (by simp), replaceAll_scan _ _ _ (by simp), scan_one l _ (Nat.le_refl _), scan_two l _ (Nat.le_refl _)]
theorem scan_length (old new : List UInt8) (h1 : 1 ≤ old.length) (h : new.length ≤ old.length) : ∀ (f : Nat) (s : List UInt8), (scan old new f s).length ≤ s.length := by
  intro f
  induction f with
  | zero => intro s; exact Nat.le_refl _
  | succ f ih =>
    intro s
    cases s with
    | nil => exact Nat.le_refl _
    | cons b l =>
      rw [scan]
      split
      · rename_i hp
        have hle : old.length ≤ (b :: l).length := by
          obtain ⟨t, ht⟩ := List.isPrefixOf_iff_prefix.1 hp
          rw [← ht, List.length_append]; omega
        have := ih ((b :: l).drop old.length)
        rw [List.length_drop] at this
        rw [List.length_append]; omega
      · have := ih l
        simp only [List.length_cons]; omega
theorem unesc_length (s : List UInt8) : (unescB s).length ≤ s.length := by
  unfold unescB
  rw [replaceAll_scan _ _ _ (by simp), replaceAll_scan _ _ _ (by simp)]
  exact Nat.le_trans (scan_length _ _ (by simp) (by simp) _ _) (scan_length _ _ (by simp) (by simp) _ _)
/-! ### bodies; the checksum is a parameter -/
section
variable (crc : List UInt8 → Nat)
def crcB (l : List UInt8) : List UInt8 := [UInt8.ofNat (crc l % 256), UInt8.ofNat (crc l / 256)]
def bodyB (l : List UInt8) : List UInt8 := l ++ crcB crc l
theorem bodyB_length (l : List UInt8) : (bodyB crc l).length = l.length + 2 := by simp [bodyB, crcB]
theorem bodyB_take (l : List UInt8) : (bodyB crc l).take ((bodyB crc l).length - 2) = l := by
  rw [bodyB_length, Nat.add_sub_cancel]; unfold bodyB; simp
def frB (l : List UInt8) : List UInt8 := escB (bodyB crc l)
/-- The frame of a payload. -/
def encB (l : List UInt8) : List UInt8 := if (frB crc l).length ≤ 2048 then 126 :: (frB crc l ++ [126]) else []
/-- What a stretch contains. -/
def payB (s : List UInt8) : Option (List UInt8) :=
  if s.length ≤ 2048 then
    if 2 ≤ (unescB s).length ∧ escB (unescB s) = s ∧ bodyB crc ((unescB s).take ((unescB s).length - 2)) = unescB s then some ((unescB s).take ((unescB s).length - 2)) else none
  else none
theorem payB_some {s p : List UInt8} : payB crc s = some p ↔ s = frB crc p ∧ s.length ≤ 2048 := by
  unfold payB
  constructor
  · intro h
    by_cases h1 : s.length ≤ 2048
    · rw [if_pos h1] at h
      by_cases h2 : 2 ≤ (unescB s).length ∧ escB (unescB s) = s ∧ bodyB crc ((unescB s).take ((unescB s).length - 2)) = unescB s
      · rw [if_pos h2] at h
        cases h
        exact ⟨by unfold frB; rw [h2.2.2, h2.2.1], h1⟩
      · rw [if_neg h2] at h; cases h
    · rw [if_neg h1] at h; cases h
  · rintro ⟨rfl, h1⟩
    rw [if_pos h1]
    have e : unescB (frB crc p) = bodyB crc p := unesc_esc _
    rw [e, bodyB_take, if_pos ⟨by rw [bodyB_length]; omega, rfl, rfl⟩]
theorem payB_nil : payB crc [] = none := by
  cases h : payB crc [] with
  | none => rfl
  | some p =>
    have h1 := (payB_some crc).1 h
    have h2 := (escB_length (bodyB crc p)).1
    rw [bodyB_length] at h2
    have h3 : (frB crc p).length = 0 := by rw [← h1.1]; rfl
    unfold frB at h3; omega
theorem payB_long {s : List UInt8} (h : 2048 < s.length) : payB crc s = none := by unfold payB; rw [if_neg (by omega)]
/-! ### streams -/
/-- The parts of a stream between its flags. -/
def parts : List UInt8 → List UInt8 × List (List UInt8)
  | [] => ([], [])
  | c :: l => if c = 126 then ([], (parts l).1 :: (parts l).2) else (c :: (parts l).1, (parts l).2)
theorem parts_flag (l : List UInt8) : parts (126 :: l) = ([], (parts l).1 :: (parts l).2) := by rw [parts, if_pos rfl]
theorem parts_ne {c : UInt8} (h : c ≠ 126) (l : List UInt8) : parts (c :: l) = (c :: (parts l).1, (parts l).2) := by rw [parts, if_neg h]
theorem parts_app (a b : List UInt8) (h : 126 ∉ a) : parts (a ++ b) = (a ++ (parts b).1, (parts b).2) := by
  induction a with
  | nil => rfl
  | cons c a ih =>
    have hc : c ≠ 126 := fun e => h (by rw [e]; exact List.mem_cons_self ..)
    rw [List.cons_append, parts_ne hc, ih (fun e => h (List.mem_cons_of_mem _ e))]; rfl
theorem parts_free (a : List UInt8) (h : 126 ∉ a) : parts a = (a, []) := by
  have := parts_app a [] h
  rw [List.append_nil] at this
  rw [this]; simp [parts]
/-- The last of the parts behind the first flag, or what there is. -/
def lastP : List UInt8 → List (List UInt8) → List UInt8
  | d, [] => d
  | _, x :: xs => lastP x xs
/-- The parts between two flags. -/
def segs (l : List UInt8) : List (List UInt8) := (parts l).2.dropLast
/-- What is left behind the last flag, with that flag. -/
def restOf : List (List UInt8) → List UInt8
  | [] => []
  | x :: xs => if (lastP x xs).length ≤ 2048 then 126 :: lastP x xs else []
def restB (l : List UInt8) : List UInt8 := restOf (parts l).2
def pays (l : List UInt8) : List (List UInt8) := (segs l).filterMap (payB crc)
theorem parts_append (a b : List UInt8) : parts (a ++ b) = match (parts a).2 with
    | [] => ((parts a).1 ++ (parts b).1, (parts b).2)
    | x :: xs => ((parts a).1, (x :: xs).dropLast ++ (lastP x xs ++ (parts b).1) :: (parts b).2) := by
  induction a with
  | nil => rfl
  | cons c a ih =>
    by_cases hc : c = 126
    · subst hc
      rw [List.cons_append, parts_flag, ih, parts_flag]
      cases h : (parts a).2 with
      | nil => simp [lastP]
      | cons x xs => simp [lastP]
    · rw [List.cons_append, parts_ne hc, ih, parts_ne hc]
      cases h : (parts a).2 with
      | nil => simp
      | cons x xs => simp
theorem lastP_append (x : List UInt8) (xs : List (List UInt8)) (y : List UInt8) (ys : List (List UInt8)) : ∀ d, lastP d (xs ++ y :: ys) = lastP y ys := by
  induction xs with
  | nil => intro d; rfl
  | cons z xs ih => intro d; exact ih z
theorem restOf_append (xs : List (List UInt8)) (y : List UInt8) (ys : List (List UInt8)) : restOf (xs ++ y :: ys) = restOf (y :: ys) := by
  cases xs with
  | nil => rfl
  | cons z xs =>
    show (if (lastP z (xs ++ y :: ys)).length ≤ 2048 then 126 :: lastP z (xs ++ y :: ys) else []) = _
    rw [lastP_append z]
    rfl
theorem dropLast_lastP (x : List UInt8) (xs : List (List UInt8)) : x :: xs = (x :: xs).dropLast ++ [lastP x xs] := by
  induction xs generalizing x with
  | nil => rfl
  | cons y ys ih => simp only [List.dropLast_cons_cons, lastP, List.cons_append]; rw [← ih]
theorem parts_hfree (l : List UInt8) : 126 ∉ (parts l).1 ∧ ∀ z ∈ (parts l).2, 126 ∉ z := by
  induction l with
  | nil => simp [parts]
  | cons c l ih =>
    by_cases hc : c = 126
    · subst hc
      rw [parts_flag]
      refine ⟨by simp, ?_⟩
      intro z hz
      rcases List.mem_cons.1 hz with h | h
      · rw [h]; exact ih.1
      · exact ih.2 z h
    · rw [parts_ne hc]
      refine ⟨?_, ih.2⟩
      intro h
      rcases List.mem_cons.1 h with h | h
      · exact hc h.symm
      · exact ih.1 h
/-- The decoding of a stream that arrives in two portions. -/
theorem cut_two (a b : List UInt8) : pays crc (a ++ b) = pays crc a ++ pays crc (restB a ++ b) ∧ restB (a ++ b) = restB (restB a ++ b) := by
  unfold pays segs
  cases ha : (parts a).2 with
  | nil =>
    have e : restB a = [] := by unfold restB; rw [ha]; rfl
    have e2 : parts (a ++ b) = ((parts a).1 ++ (parts b).1, (parts b).2) := by rw [parts_append, ha]
    rw [e, e2, List.nil_append]
    refine ⟨by simp, ?_⟩
    unfold restB; rw [e2]
  | cons x xs =>
    have e2 : parts (a ++ b) = ((parts a).1, (x :: xs).dropLast ++ (lastP x xs ++ (parts b).1) :: (parts b).2) := by rw [parts_append, ha]
    by_cases hl : (lastP x xs).length ≤ 2048
    · have e : restB a = 126 :: lastP x xs := by unfold restB; rw [ha]; simp [restOf, hl]
      have hin : lastP x xs ∈ x :: xs := by rw [dropLast_lastP x xs]; simp
      have hf := (parts_hfree a).2 (lastP x xs) (by rw [ha]; exact hin)
      have e3 : parts (restB a ++ b) = ([], (lastP x xs ++ (parts b).1) :: (parts b).2) := by rw [e, List.cons_append, parts_flag, parts_app _ _ hf]
      rw [e2, e3]
      refine ⟨?_, ?_⟩
      · show List.filterMap (payB crc) ((x :: xs).dropLast ++ (lastP x xs ++ (parts b).1) :: (parts b).2).dropLast = _
        rw [List.dropLast_append_of_ne_nil (by simp), List.filterMap_append]
      · show restOf (parts (a ++ b)).2 = restOf (parts (restB a ++ b)).2
        rw [e2, e3]
        exact restOf_append _ _ _
    · have e : restB a = [] := by unfold restB; rw [ha]; simp [restOf, hl]
      rw [e, e2, List.nil_append]
      refine ⟨?_, ?_⟩
      · show List.filterMap (payB crc) ((x :: xs).dropLast ++ (lastP x xs ++ (parts b).1) :: (parts b).2).dropLast = _
        rw [List.dropLast_append_of_ne_nil (by simp), List.filterMap_append]
        congr 1
        cases hb : (parts b).2 with
        | nil => rfl
        | cons y ys =>
          simp only [List.dropLast_cons_cons]
          rw [List.filterMap_cons_none (payB_long crc (by rw [List.length_append]; omega))]
      · show restOf (parts (a ++ b)).2 = restOf (parts b).2
        rw [e2]
        show restOf ((x :: xs).dropLast ++ (lastP x xs ++ (parts b).1) :: (parts b).2) = _
        rw [restOf_append]
        cases hb : (parts b).2 with
        | nil => exact if_neg (by simp only [lastP]; rw [List.length_append]; omega)
        | cons y ys => rfl
end
end Go.Proofs.YtdgejkiackeieaaDoor.Fr
end
section
set_option linter.unusedVariables false
set_option linter.unusedSimpArgs false
/- The laws of layer 23 in plain words: frames that follow each other, frames found in a stream, flags. No program in sight. -/
set_option linter.unusedVariables false
set_option linter.unusedSimpArgs false
namespace Go.Proofs.YtdgejkiackeieaaDoor.Fr
open Go.Proofs.YtdgejkiackeieaaDoor
section
variable (crc : List UInt8 → Nat)
theorem frB_length (l : List UInt8) : l.length + 2 ≤ (frB crc l).length ∧ (frB crc l).length ≤ 2 * l.length + 4 := by
  unfold frB
  have := escB_length (bodyB crc l)
  rw [bodyB_length] at this
  omega
theorem frB_free (l : List UInt8) : 126 ∉ frB crc l := escB_flag _
theorem encB_pos {l : List UInt8} (h : (frB crc l).length ≤ 2048) : encB crc l = 126 :: (frB crc l ++ [126]) := if_pos h
theorem encB_neg {l : List UInt8} (h : ¬ (frB crc l).length ≤ 2048) : encB crc l = [] := if_neg h
theorem encB_nil {l : List UInt8} : encB crc l = [] ↔ ¬ (frB crc l).length ≤ 2048 := by
  by_cases h : (frB crc l).length ≤ 2048
  · rw [encB_pos crc h]; simp [h]
  · rw [encB_neg crc h]; simp [h]
theorem encB_length (l : List UInt8) : (encB crc l).length ≤ 2050 := by
  unfold encB
  split
  · simp; omega
  · simp
theorem encB_short {l : List UInt8} (h : l.length ≤ 1000) : encB crc l ≠ [] := by
  intro e
  have := (encB_nil crc).1 e
  have := (frB_length crc l).2
  omega
/-! ### streams of frames -/
theorem pays_free {a : List UInt8} (h : 126 ∉ a) : pays crc a = [] ∧ restB a = [] := by
  unfold pays segs restB
  rw [parts_free a h]
  exact ⟨rfl, rfl⟩
theorem pays_skip {a : List UInt8} (h : 126 ∉ a) (b : List UInt8) : pays crc (a ++ b) = pays crc b ∧ restB (a ++ b) = restB b := by
  have e := cut_two crc a b
  have f := pays_free crc h
  rw [f.1, f.2] at e
  exact ⟨e.1, e.2⟩
/-- A flag, a stretch, a flag, and what follows. -/
theorem pays_seg {a : List UInt8} (h : 126 ∉ a) (b : List UInt8) : pays crc (126 :: (a ++ 126 :: b)) = (payB crc a).toList ++ pays crc (126 :: b) := by
  unfold pays segs
  rw [parts_flag, parts_flag, parts_app a _ h, parts_flag]
  simp only [List.append_nil, List.dropLast_cons_cons]
  rw [List.filterMap_cons]
  cases payB crc a <;> rfl
theorem pays_open {a : List UInt8} (h : 126 ∉ a) : pays crc (126 :: a) = [] := by
  unfold pays segs
  rw [parts_flag, parts_free a h]
  rfl
theorem rest_seg {a : List UInt8} (h : 126 ∉ a) (b : List UInt8) : restB (126 :: (a ++ 126 :: b)) = restB (126 :: b) := by
  unfold restB
  rw [parts_flag, parts_flag, parts_app a _ h, parts_flag]
  rfl
theorem rest_flag : restB [126] = [126] := by decide
theorem pays_flag : pays crc [126] = [] := pays_open crc (a := []) (by simp)
/-- A frame behind a stream that holds no flag. -/
theorem pays_frame {l : List UInt8} (h : encB crc l ≠ []) : pays crc (encB crc l) = [l] ∧ restB (encB crc l) = [126] ∧ pays crc (126 :: encB crc l) = [l] ∧ restB (126 :: encB crc l) = [126] := by
  have h1 : (frB crc l).length ≤ 2048 := Decidable.by_contra fun hn => h (encB_neg crc hn)
  have hp : payB crc (frB crc l) = some l := (payB_some crc).2 ⟨rfl, h1⟩
  have k1 : pays crc (encB crc l) = [l] := by
    rw [encB_pos crc h1, pays_seg crc (frB_free crc l) [], hp, pays_flag]; rfl
  have k2 : restB (encB crc l) = [126] := by
    rw [encB_pos crc h1, rest_seg (frB_free crc l) [], rest_flag]
  refine ⟨k1, k2, ?_, ?_⟩
  · rw [encB_pos crc h1] at k1 ⊢
    have := pays_seg crc (a := []) (by simp) (frB crc l ++ [126])
    rw [List.nil_append] at this
    rw [this, payB_nil, k1]; rfl
  · rw [encB_pos crc h1] at k2 ⊢
    have := rest_seg (a := []) (by simp) (frB crc l ++ [126])
    rw [List.nil_append] at this
    rw [this, k2]
/-- What the stream of frames so far has given. -/
def Back (s : List UInt8) (want : List (List UInt8)) : Prop := pays crc s = want ∧ restB s = (if want = [] then [] else [126])
theorem Back.start {a : List UInt8} (h : 126 ∉ a) : Back crc a [] := pays_free crc h
theorem Back.step {s : List UInt8} {want : List (List UInt8)} (h : Back crc s want) (l : List UInt8) : Back crc (s ++ encB crc l) (if encB crc l = [] then want else want ++ [l]) := by
  by_cases he : encB crc l = []
  · rw [if_pos he, he, List.append_nil]; exact h
  · rw [if_neg he]
    obtain ⟨f1, f2, f3, f4⟩ := pays_frame crc he
    obtain ⟨e1, e2⟩ := cut_two crc s (encB crc l)
    have hr : pays crc (restB s ++ encB crc l) = [l] ∧ restB (restB s ++ encB crc l) = [126] := by
      rw [h.2]
      by_cases hw : want = []
      · rw [if_pos hw]; exact ⟨f1, f2⟩
      · rw [if_neg hw]; exact ⟨f3, f4⟩
    unfold Back
    rw [e1, e2, h.1, hr.1, hr.2, if_neg (by simp)]
    exact ⟨rfl, rfl⟩
/-! ### frames found in a stream -/
inductive Chain (s : List UInt8) : Nat → List (List UInt8) → Prop
  | nil (at_ : Nat) : Chain s at_ []
  | cons (at_ q : Nat) (p : List UInt8) (ps : List (List UInt8)) : at_ ≤ q → encB crc p ≠ [] → q + (encB crc p).length ≤ s.length → (s.drop q).take (encB crc p).length = encB crc p → Chain s (q + (encB crc p).length - 1) ps → Chain s at_ (p :: ps)
theorem free_or (t : List UInt8) : 126 ∉ t ∨ ∃ a b, 126 ∉ a ∧ t = a ++ 126 :: b := by
  induction t with
  | nil => left; simp
  | cons c t ih =>
    by_cases hc : c = 126
    · right; exact ⟨[], t, by simp, by rw [hc]; rfl⟩
    · rcases ih with h | ⟨a, b, h1, h2⟩
      · left; intro h'; rcases List.mem_cons.1 h' with h'' | h''
        · exact hc h''.symm
        · exact h h''
      · right
        refine ⟨c :: a, b, ?_, by rw [h2]; rfl⟩
        intro h'
        rcases List.mem_cons.1 h' with h'' | h''
        · exact hc h''.symm
        · exact h1 h''
end
end Go.Proofs.YtdgejkiackeieaaDoor.Fr
end
section
set_option linter.unusedVariables false
set_option linter.unusedSimpArgs false
-- printed by a program of this session's (xprint.py) out of the translation (one function, cut out); Lean checks it
namespace Go.Proofs.YtdgejkiackeieaaDoor.PSmall
open Go.RowKit Go.Proofs.YtdgejkiackeieaaDoorW.PrintWords Go.Proofs.YtdgejkiackeieaaDoorW.PrintLast Go.Proofs.YtdgejkiackeieaaDoorW.PrintMore
attribute [local go_sem] max2_int min2_int max_two min_two max_three min_three max_four min_four   -- for this text's walks alone
set_option linter.unusedVariables false
set_option linter.unusedSimpArgs false



-- the values' own types


/-! ### digest_Crc: function 29 -/
mutual
def digest_Crc.l0 : Nat → ByteArray → Int → Int → Int → Option (Int)
 | 0, _, _, _, _ => none
 | k + 1, x0, x3, x7, x8 => if x8 < x7 then (if 0 ≤ x8 then (if x8 < (x0.size : Int) then (digest_Crc.l1 k x0 (Go.bits .xor .u16 x3 (IntKind.u16.wrap (bt x0 x8))) x7 x8 0) else (none)) else (none)) else (some (wrap64 (Go.bits .xor .u16 IntKind.u16.max x3)))
def digest_Crc.l1 : Nat → ByteArray → Int → Int → Int → Int → Option (Int)
 | 0, _, _, _, _, _ => none
 | k + 1, x0, x3, x7, x8, x17 => if x17 < 8 then (if (Go.bits .and .u16 x3 1) = 1 then (digest_Crc.l1 k x0 (Go.bits .xor .u16 (x3 / 2) 33800) x7 x8 (wrap64 (x17 + 1))) else (digest_Crc.l1 k x0 (x3 / 2) x7 x8 (wrap64 (x17 + 1)))) else (digest_Crc.l0 k x0 x3 x7 (wrap64 (x8 + 1)))
end
def digest_Crc.f (k : Nat) (a0 : ByteArray) : Option (Int) := digest_Crc.l0 k a0 65535 (a0.size : Int) 0
set_option maxHeartbeats 8000000 in
set_option maxRecDepth 100000 in
theorem digest_Crc.calls (k : Nat) (a0 : ByteArray) (r : Int) (w : World) (h : digest_Crc.f k a0 = some r) :
  Calls Tryd.prog 29 #[.string a0] w fun e w' => e = .returned (.int .i64 r) ∧ Drawn0 w w' := by
 have H : (digest_Crc.l0 k a0 65535 (a0.size : Int) 0) = some r := h
 clear h
 have H' := Aside0.mk H
 clear H
 go_enter Tryd.func29, Tryd.ntmps29
 go_wp2
 go_loopg [3, 8] k (fun kq v3 v8 w' => ∃ (x3_1 : Int) (x8_1 : Int), v3 = .int .u16 x3_1 ∧ v8 = .int .i64 x8_1 ∧ Aside0 (digest_Crc.l0 kq a0 x3_1 (a0.size : Int) x8_1 = some r) ∧ Aside0 (kq ≤ k) ∧ Drawn0 w w')
 case atStart => exact ⟨(65535), (0), (by first | rfl | (simp; done) | (simp [*]; done)), (by first | rfl | (simp; done) | (simp [*]; done)), H', ⟨Nat.le_refl _⟩, by repeat (first | exact Drawn0.refl _ | apply Drawn0.step)⟩
 case round =>
  clear H'
  obtain ⟨x3_1, x8_1, rfl, rfl, HA, HK1, ⟨m1, rfl⟩⟩ := hrel
  cases gk with
  | zero => exact absurd HA.out (by simp [digest_Crc.l0])
  | succ k1 =>
   have H := HA.out
   clear HA
   simp only [digest_Crc.l0] at H
   by_cases c2 : x8_1 < (a0.size : Int)
   ·rw [if_pos c2] at H
    have c2b0 : decide (x8_1 < (a0.size : Int)) = true := decide_eq_true c2
    clear c2
    by_cases c3 : 0 ≤ x8_1
    ·rw [if_pos c3] at H
     have c3b0 : decide (0 ≤ x8_1) = true := decide_eq_true c3
     clear c3
     by_cases c4 : x8_1 < (a0.size : Int)
     ·rw [if_pos c4] at H
      have c4b0 : decide (x8_1 < (a0.size : Int)) = true := decide_eq_true c4
      clear c4
      have H' := Aside0.mk H
      clear H
      have p5 : 0 ≤ (x8_1 : Int) := of_decide_eq_true (by first | (with_reducible assumption) | assumption)
      have q5 : x8_1 < (a0.size : Int) := of_decide_eq_true (by first | (with_reducible assumption) | assumption)
      have hx5 := bt_at a0 x8_1
      replace p5 := eq_true p5
      replace q5 := eq_true q5
      go_wp2
      go_loopg [3, 17] k1 (fun kq v3 v17 w' => ∃ (x3_2 : Int) (x17_2 : Int), v3 = .int .u16 x3_2 ∧ v17 = .int .i64 x17_2 ∧ Aside0 (digest_Crc.l1 kq a0 x3_2 (a0.size : Int) x8_1 x17_2 = some r) ∧ Aside0 (kq ≤ k1) ∧ Drawn0 w w')
      case atStart => exact ⟨(Go.bits .xor .u16 x3_1 (IntKind.u16.wrap (bt a0 x8_1))), (0), (by first | rfl | (simp; done) | (simp [*]; done)), (by first | rfl | (simp; done) | (simp [*]; done)), H', ⟨Nat.le_refl _⟩, by repeat (first | exact Drawn0.refl _ | apply Drawn0.step)⟩
      case round =>
       clear H'
       try clear c2
       try clear c2b0
       try clear p2
       try clear c3
       try clear c3b0
       try clear c4
       try clear c4b0
       try clear p5
       try clear q5
       try clear hx5
       try clear p5
       try clear q5
       obtain ⟨x3_2, x17_2, rfl, rfl, HA, HK2, ⟨m2, rfl⟩⟩ := hrel
       cases gk with
       | zero => exact absurd HA.out (by simp [digest_Crc.l1])
       | succ k2 =>
        have H := HA.out
        clear HA
        simp only [digest_Crc.l1] at H
        by_cases c6 : x17_2 < 8
        ·rw [if_pos c6] at H
         have c6b0 : decide (x17_2 < 8) = true := decide_eq_true c6
         clear c6
         by_cases c7 : (Go.bits .and .u16 x3_2 1) = 1
         ·rw [if_pos c7] at H
          have c7b0 : ((Go.bits .and .u16 x3_2 1) == 1) = true := beq_iff_eq.mpr c7
          have c7b1 : ((Go.bits .and .u16 x3_2 1) != 1) = false := bne_eq_false_iff_eq.mpr c7
          clear c7
          have H' := Aside0.mk H
          clear H
          go_wp2
          go_roundg k2
          case measure => have := HK1.out; have := HK2.out; omega
          case rel => exact ⟨(Go.bits .xor .u16 (x3_2 / 2) 33800), (wrap64 (x17_2 + 1)), (by first | rfl | (simp; done) | (simp [*]; done)), (by first | rfl | (simp; done) | (simp [*]; done)), H', ⟨by have := HK1.out; have := HK2.out; omega⟩, by repeat (first | exact Drawn0.refl _ | apply Drawn0.step)⟩
         ·rw [if_neg c7] at H
          have c7b0 : ((Go.bits .and .u16 x3_2 1) == 1) = false := beq_eq_false_iff_ne.mpr c7
          have c7b1 : ((Go.bits .and .u16 x3_2 1) != 1) = true := bne_iff_ne.mpr c7
          have H' := Aside0.mk H
          clear H
          go_wp2
          go_roundg k2
          case measure => have := HK1.out; have := HK2.out; omega
          case rel => exact ⟨(x3_2 / 2), (wrap64 (x17_2 + 1)), (by first | rfl | (simp; done) | (simp [*]; done)), (by first | rfl | (simp; done) | (simp [*]; done)), H', ⟨by have := HK1.out; have := HK2.out; omega⟩, by repeat (first | exact Drawn0.refl _ | apply Drawn0.step)⟩
        ·rw [if_neg c6] at H
         have c6b0 : decide (x17_2 < 8) = false := decide_eq_false c6
         clear c6
         have H' := Aside0.mk H
         clear H
         go_wp2
         go_roundg k2
         case measure => have := HK1.out; have := HK2.out; omega
         case rel => exact ⟨(x3_2), (wrap64 (x8_1 + 1)), (by first | rfl | (simp; done) | (simp [*]; done)), (by first | rfl | (simp; done) | (simp [*]; done)), H', ⟨by have := HK1.out; have := HK2.out; omega⟩, by repeat (first | exact Drawn0.refl _ | apply Drawn0.step)⟩
     ·rw [if_neg c4] at H
      exact absurd H (by simp)
    ·rw [if_neg c3] at H
     exact absurd H (by simp)
   ·rw [if_neg c2] at H
    have c2b0 : decide (x8_1 < (a0.size : Int)) = false := decide_eq_false c2
    clear c2
    obtain rfl := Option.some.inj H
    go_wp2
    go_ret
    exact ⟨by first | rfl | (simp; done) | (simp [*]; done), by repeat (first | exact Drawn0.refl _ | apply Drawn0.step)⟩

-- NOT PRINTED: function 126 (digest_words)


end Go.Proofs.YtdgejkiackeieaaDoor.PSmall
end
section
set_option linter.unusedVariables false
set_option linter.unusedSimpArgs false
/- The Crc of package digest in plain numbers: its register's theory (bursts, exclusive or), and that the printed function computes it. -/
set_option linter.unusedVariables false
set_option linter.unusedSimpArgs false
namespace Go.Proofs.YtdgejkiackeieaaDoor
namespace Crc
/-- One step of the register, on naturals of any size. -/
def step (x : Nat) : Nat := if x % 2 = 1 then (x / 2) ^^^ 33800 else x / 2
def steps : Nat → Nat → Nat
  | 0, x => x
  | n + 1, x => steps n (step x)
theorem step_lt {x : Nat} (h : x < 65536) : step x < 65536 := by
  unfold step
  split
  · exact Nat.xor_lt_two_pow (n := 16) (by omega) (by decide)
  · omega
theorem steps_lt (n : Nat) {x : Nat} (h : x < 65536) : steps n x < 65536 := by
  induction n generalizing x with
  | zero => exact h
  | succ n ih => exact ih (step_lt h)
/-- The register behind a list of bytes. -/
def reg (x : Nat) (l : List Nat) : Nat := l.foldl (fun x c => steps 8 (x ^^^ c)) x
theorem reg_lt {x : Nat} (l : List Nat) (hx : x < 65536) (hl : ∀ c ∈ l, c < 256) : reg x l < 65536 := by
  induction l generalizing x with
  | nil => exact hx
  | cons c l ih =>
    refine ih (steps_lt 8 (Nat.xor_lt_two_pow (n := 16) hx ?_)) (fun d hd => hl d (List.mem_cons_of_mem _ hd))
    have := hl c (List.mem_cons_self ..); omega
end Crc

/-- The bytes of a string as numbers. -/
def nb (s : ByteArray) : List Nat := s.data.toList.map UInt8.toNat
theorem nb_length (s : ByteArray) : (nb s).length = s.size := by unfold nb; rw [List.length_map, Array.length_toList]; rfl
theorem nb_lt (s : ByteArray) : ∀ c ∈ nb s, c < 256 := by
  intro c hc
  simp only [nb, List.mem_map] at hc
  obtain ⟨b, _, rfl⟩ := hc
  exact b.toNat_lt
theorem nb_get (s : ByteArray) (i : Nat) (h : i < s.size) : Go.Proofs.YtdgejkiackeieaaDoorW.PrintWords.bt s i = (((nb s)[i]'(by rw [nb_length]; exact h) : Nat) : Int) := by
  unfold Go.Proofs.YtdgejkiackeieaaDoorW.PrintWords.bt
  rw [dif_pos (show ((i : Int)).toNat < s.size by omega)]
  simp only [nb, Int.toNat_natCast, List.getElem_map, Array.getElem_toList]
  rfl
/-- The checksum of a list of bytes. -/
def crcN (l : List Nat) : Nat := 65535 ^^^ Crc.reg 65535 l
theorem crcN_lt (l : List Nat) (h : ∀ c ∈ l, c < 256) : crcN l < 65536 := Nat.xor_lt_two_pow (n := 16) (by decide) (Crc.reg_lt l (by decide) h)
namespace CrcPrint
open Go.RowKit Go.Proofs.YtdgejkiackeieaaDoorW.PrintWords Go.Proofs.YtdgejkiackeieaaDoor.PSmall
theorem and_one (x : Nat) (h : x < 65536) : Go.bits .and .u16 (x : Int) 1 = ((x % 2 : Nat) : Int) := by
  have := u16_and_nat x 1 h (by decide)
  rw [nat_mask1] at this
  exact this
theorem wrap_u16_byte (c : Nat) (h : c < 256) : IntKind.u16.wrap (c : Int) = (c : Int) := by rw [IntKind.wrap_u16]; omega
theorem l1_eq (s : ByteArray) (i7 i8 : Int) (d : Nat) : ∀ (k x j : Nat), x < 65536 → j + d = 8 → PSmall.digest_Crc.l1 (k + d + 1) s x i7 i8 j = PSmall.digest_Crc.l0 k s (Crc.steps d x : Nat) i7 (wrap64 (i8 + 1)) := by
  induction d with
  | zero =>
    intro k x j hx hj
    rw [PSmall.digest_Crc.l1, if_neg (by omega)]
    rfl
  | succ d ih =>
    intro k x j hx hj
    rw [show k + (d + 1) + 1 = (k + d + 1) + 1 by omega, PSmall.digest_Crc.l1, if_pos (by omega), and_one x hx]
    have ew : wrap64 ((j : Int) + 1) = ((j + 1 : Nat) : Int) := by unfold wrap64; omega
    have hs : Crc.steps (d + 1) x = Crc.steps d (Crc.step x) := rfl
    have h2 : ((x : Int) / 2) = ((x / 2 : Nat) : Int) := by omega
    rw [hs, ew, h2]
    by_cases ho : x % 2 = 1
    · have e : Go.bits .xor .u16 ((x / 2 : Nat) : Int) 33800 = ((Crc.step x : Nat) : Int) := by
        have := u16_xor_nat (x / 2) 33800 (by omega) (by decide)
        rw [show ((33800 : Nat) : Int) = 33800 from rfl] at this
        rw [this, Crc.step, if_pos ho]
      rw [if_pos (by omega), e]
      exact ih k _ (j + 1) (Crc.step_lt hx) (by omega)
    · have e : x / 2 = Crc.step x := by rw [Crc.step, if_neg ho]
      rw [if_neg (by omega), e]
      exact ih k _ (j + 1) (Crc.step_lt hx) (by omega)
theorem l0_eq (s : ByteArray) (hs : s.size ≤ 1000000) (d : Nat) : ∀ (x i : Nat), x < 65536 → i + d = s.size → ∃ k, PSmall.digest_Crc.l0 k s x (s.size : Int) i = some ((65535 ^^^ Crc.reg x ((nb s).drop i) : Nat) : Int) := by
  induction d with
  | zero =>
    intro x i hx hi
    refine ⟨1, ?_⟩
    have e : (nb s).drop i = [] := by rw [List.drop_eq_nil_iff, nb_length]; omega
    have := u16_xor_nat 65535 x (by decide) hx
    have hl : (65535 ^^^ x) < 65536 := Nat.xor_lt_two_pow (n := 16) (by decide) hx
    rw [PSmall.digest_Crc.l0, if_neg (by omega), e, show IntKind.u16.max = ((65535 : Nat) : Int) from rfl, this]
    congr 1
    show wrap64 ((65535 ^^^ x : Nat) : Int) = ((65535 ^^^ x : Nat) : Int)
    unfold wrap64
    omega
  | succ d ih =>
    intro x i hx hi
    have hlt : i < s.size := by omega
    have hg : (nb s)[i]'(by rw [nb_length]; exact hlt) < 256 := nb_lt s _ (List.getElem_mem _)
    obtain ⟨k, hk⟩ := ih (Crc.steps 8 (x ^^^ (nb s)[i]'(by rw [nb_length]; exact hlt))) (i + 1) (Crc.steps_lt 8 (Nat.xor_lt_two_pow (n := 16) hx (by omega))) (by omega)
    refine ⟨(k + 8 + 1) + 1, ?_⟩
    rw [PSmall.digest_Crc.l0, if_pos (by omega), if_pos (by omega), if_pos (by omega), nb_get s i hlt, wrap_u16_byte _ hg, u16_xor_nat x _ hx (by omega)]
    have := l1_eq s (s.size : Int) (i : Int) 8 k (x ^^^ (nb s)[i]'(by rw [nb_length]; exact hlt)) 0 (Nat.xor_lt_two_pow (n := 16) hx (by omega)) rfl
    rw [show ((0 : Nat) : Int) = 0 from rfl] at this
    rw [this, show wrap64 ((i : Int) + 1) = ((i + 1 : Nat) : Int) by unfold wrap64; omega, hk]
    have ed : (nb s).drop i = (nb s)[i]'(by rw [nb_length]; exact hlt) :: (nb s).drop (i + 1) := List.drop_eq_getElem_cons (by rw [nb_length]; exact hlt)
    rw [ed]
    rfl
theorem f_eq (s : ByteArray) (hs : s.size ≤ 1000000) : ∃ k, PSmall.digest_Crc.f k s = some (crcN (nb s) : Int) := by
  obtain ⟨k, hk⟩ := l0_eq s hs s.size 65535 0 (by decide) (by omega)
  exact ⟨k, hk⟩
end CrcPrint
open Go.RowKit Go.Proofs.YtdgejkiackeieaaDoorW.PrintWords in
def digest_Crc.f (a0 : ByteArray) : Option Int := if a0.size ≤ 1000000 then some (crcN (nb a0) : Int) else none
open Go.RowKit Go.Proofs.YtdgejkiackeieaaDoorW.PrintWords in
theorem digest_Crc.calls (a0 : ByteArray) (r : Int) (w : World) (h : digest_Crc.f a0 = some r) :
    Calls Tryd.prog 29 #[.string a0] w fun e w' => e = .returned (.int .i64 r) ∧ Drawn0 w w' := by
  unfold digest_Crc.f at h
  split at h
  · obtain ⟨k, hk⟩ := CrcPrint.f_eq a0 ‹_›
    exact PSmall.digest_Crc.calls k a0 r w (hk.trans h)
  · cases h
end Go.Proofs.YtdgejkiackeieaaDoor
end
section
set_option linter.unusedVariables false
set_option linter.unusedSimpArgs false
/- Plain lemmas on strings, their bytes, and numbers made into strings. -/
set_option linter.unusedVariables false
namespace Go.Proofs.YtdgejkiackeieaaDoor
open Go.RowKit Go.Proofs.YtdgejkiackeieaaDoorW.PrintWords
theorem size_len (s : ByteArray) : s.data.toList.length = s.size := Array.length_toList
theorem ba_ext {s t : ByteArray} (h : s.data.toList = t.data.toList) : s = t := by
  obtain ⟨⟨a⟩⟩ := s; obtain ⟨⟨b⟩⟩ := t; cases h; rfl
theorem data_append (a b : ByteArray) : (a ++ b).data.toList = a.data.toList ++ b.data.toList := Go.Joins.data_append a b
theorem size_nums (l : List Int) : (strOfNums l).size = l.length := by
  rw [← size_len]; simp [strOfNums]
theorem size_append (a b : ByteArray) : (a ++ b).size = a.size + b.size := ByteArray.size_append
theorem wrap64_id {x : Int} (h0 : -9223372036854775808 ≤ x) (h1 : x < 9223372036854775808) : wrap64 x = x := by unfold wrap64; omega
end Go.Proofs.YtdgejkiackeieaaDoor
end
section
set_option linter.unusedVariables false
set_option linter.unusedSimpArgs false
/- Layer 23: body, escaped, Encode, payload. -/
set_option linter.unusedVariables false
set_option linter.unusedSimpArgs false
namespace Go.Proofs.YtdgejkiackeieaaDoor.Fr
open Go.RowKit Go.Proofs.YtdgejkiackeieaaDoor Go.Proofs.YtdgejkiackeieaaDoor.Wr Go.Proofs.YtdgejkiackeieaaDoorW.PrintWords Go.Proofs.YtdgejkiackeieaaDoorW.PrintMore Go.Proofs.YtdgejkiackeieaaDoorW.PrintLast
/-- The checksum of a list of bytes. -/
def crcF (l : List UInt8) : Nat := crcN (l.map UInt8.toNat)
theorem crcF_lt (l : List UInt8) : crcF l < 65536 := crcN_lt _ (by intro c hc; obtain ⟨x, _, rfl⟩ := List.mem_map.1 hc; exact x.toNat_lt)
theorem crc_any (s : ByteArray) (w : World) (hs : s.size ≤ 1000000) : Calls Tryd.prog 29 #[.string s] w fun e w' => e = .returned (.int .i64 (crcF s.data.toList : Int)) ∧ Drawn0 w w' :=
  digest_Crc.calls s _ w (by unfold digest_Crc.f; rw [if_pos hs]; rfl)
set_option maxRecDepth 100000 in
theorem escaped_any (s : ByteArray) (w : World) (hM : MaxW w) (hs : s.size ≤ 1000000) : Calls Tryd.prog 104 #[.string s] w fun e w' => e = .returned (.string (mkB (escB s.data.toList))) ∧ Below w.heap.size w w' := by
  have HM := Lib.hid hM
  clear hM
  obtain ⟨R, hR⟩ : ∃ R, mkB (escB s.data.toList) = R := ⟨_, rfl⟩
  rw [hR]
  rw [← esc_two] at hR
  obtain ⟨Q, hQ⟩ : ∃ Q, mkB (Lib.replaceAll s.data.toList [125] [125, 93]) = Q := ⟨_, rfl⟩
  have hQz : Q.size ≤ 2000000 := by
    rw [← hQ, mkB_size, replaceAll_one]
    have : ∀ l : List UInt8, (l.flatMap fun b => if b = 125 then [125, 93] else [b]).length ≤ 2 * l.length := by
      intro l
      induction l with
      | nil => simp
      | cons c l ih =>
        rw [List.flatMap_cons, List.length_append, List.length_cons]
        have : (if c = 125 then [125, 93] else [c] : List UInt8).length ≤ 2 := by split <;> simp
        omega
    have := this s.data.toList
    rw [len_size] at this; omega
  have hR2 : mkB (Lib.replaceAll Q.data.toList [126] [125, 94]) = R := by rw [← hQ]; exact hR
  have HR := Lib.hid hR2; have HQ := Lib.hid hQ
  clear hR hR2 hQ
  go_enter Tryd.func104, Tryd.ntmps104
  go_wp2_with fail
  refine (Repl_any s ⟨#[125]⟩ ⟨#[125, 93]⟩ w HM.out (by omega) (by decide) (by decide)).mono ?_
  rw [show mkB (Lib.replaceAll s.data.toList (ByteArray.mk #[125]).data.toList (ByteArray.mk #[125, 93]).data.toList) = Q from HQ.out]
  rintro e w1 ⟨rfl, b1⟩
  have B1 := Lib.hid b1; clear b1
  go_wp2_with fail
  refine (Repl_any Q ⟨#[126]⟩ ⟨#[125, 94]⟩ w1 (HM.out.below B1.out) (by omega) (by decide) (by decide)).mono ?_
  rw [show mkB (Lib.replaceAll Q.data.toList (ByteArray.mk #[126]).data.toList (ByteArray.mk #[125, 94]).data.toList) = R from HR.out]
  rintro e w2 ⟨rfl, b2⟩
  have B2 := Lib.hid (B1.out.trans (b2.mono B1.out.size)); clear b2
  go_wp2
  go_ret
  exact ⟨rfl, B2.out⟩
theorem bytes_two (w : World) (x y : Int) : ReadsInt (w.alloc (Obj.cells #[Value.int .u8 x, Value.int .u8 y] 5)) .u8 (some ⟨w.heap.size, 0, none⟩) 2 [x, y] := by
  have hb := heap_alloc_new w (Obj.cells #[Value.int .u8 x, Value.int .u8 y] 5)
  refine ⟨rfl, by decide, fun _ => ⟨_, rfl, fun j hj => ?_⟩⟩
  rw [add_plain]
  have h2 : j = 0 ∨ j = 1 := by omega
  rcases h2 with rfl | rfl
  · exact (blk_cell hb 0).trans rfl
  · exact (blk_cell hb 1).trans rfl
set_option maxRecDepth 100000 in
theorem body_any (s : ByteArray) (w : World) (hs : s.size ≤ 1000000) : Calls Tryd.prog 105 #[.string s] w fun e w' => e = .returned (.string (mkB (bodyB crcF s.data.toList))) ∧ Below w.heap.size w w' := by
  have hlt := crcF_lt s.data.toList
  obtain ⟨R, hR⟩ : ∃ R, mkB (bodyB crcF s.data.toList) = R := ⟨_, rfl⟩
  rw [hR]
  have HR := Lib.hid hR
  obtain ⟨n, hn⟩ : ∃ n, crcF s.data.toList = n := ⟨_, rfl⟩
  have HN := Lib.hid hn
  rw [hn] at hlt
  clear hR hn
  go_enter Tryd.func105, Tryd.ntmps105
  go_wp2_with fail
  refine (crc_any s w hs).mono ?_
  rw [HN.out]
  rintro e w1 ⟨rfl, b1⟩
  have B1 := Lib.hid b1.below; clear b1
  go_wp2_with fail
  have hcv := string_of_reads (P := Tryd.prog) (src := 30) (dst := 9) (c := 2) Tryd.underlying30 Tryd.underlying5 Tryd.underlying9 (bytes_two w1 ((n : Int) % 256) ((n : Int) / 256))
  obtain ⟨C, hC⟩ : ∃ C, strOfNums [(n : Int) % 256, (n : Int) / 256] = C := ⟨_, rfl⟩
  rw [hC] at hcv
  have hCs : C.size = 2 := by rw [← hC]; exact size_nums _
  have hsum : s ++ C = R := by
    rw [← HR.out, ← hC]
    have e : strOfNums [(n : Int) % 256, (n : Int) / 256] = mkB (crcB crcF s.data.toList) := by
      rw [← str_uh]
      congr 1
      unfold crcB uh
      rw [HN.out]
      simp only [List.map_cons, List.map_nil, UInt8.toNat_ofNat', Nat.reducePow]
      congr 1
      · omega
      · congr 1; omega
    rw [e]
    unfold bodyB
    rw [← mkB_append]
  have hz : (s.size : Int) + (C.size : Int) ≤ 9223372036854775807 := by omega
  have HS := Lib.hid hsum
  have HB := Lib.hid (B1.out.trans (((Below.refl _ w1).alloc (Nat.le_refl _) (Obj.cells #[Value.int .u8 ((n : Int) % 256), Value.int .u8 ((n : Int) / 256)] 5)).mono B1.out.size))
  clear hsum hC hCs HN
  rw [hcv]
  clear hcv
  go_wp2
  go_ret
  exact ⟨ret_s' HS.out, HB.out⟩
/-- The frame of a payload, as the program writes it. -/
theorem Encode_any (s : ByteArray) (w : World) (hM : MaxW w) (hs : s.size ≤ 400000) : Calls Tryd.prog 44 #[.string s] w fun e w' => e = .returned (.string (mkB (encB crcF s.data.toList))) ∧ Below w.heap.size w w' := by
  have HM := Lib.hid hM
  clear hM
  obtain ⟨Q, hQ⟩ : ∃ Q, mkB (bodyB crcF s.data.toList) = Q := ⟨_, rfl⟩
  have hQz : Q.size ≤ 400002 := by rw [← hQ, mkB_size, bodyB_length, len_size]; omega
  obtain ⟨F, hF⟩ : ∃ F, mkB (frB crcF s.data.toList) = F := ⟨_, rfl⟩
  have hF2 : mkB (escB Q.data.toList) = F := by rw [← hQ]; exact hF
  have HQ := Lib.hid hQ; have HF := Lib.hid hF2
  by_cases hl : (frB crcF s.data.toList).length ≤ 2048
  · have hR : (⟨#[126]⟩ : ByteArray) ++ F ++ (⟨#[126]⟩ : ByteArray) = mkB (encB crcF s.data.toList) := by
      rw [encB_pos crcF hl, ← hF]; show mkB [126] ++ mkB (frB crcF s.data.toList) ++ mkB [126] = _; rw [mkB_append, mkB_append]; rfl
    have hFz : ¬ (2048 : Int) < (F.size : Int) := by rw [← hF, mkB_size]; omega
    obtain ⟨R, hR'⟩ : ∃ R, mkB (encB crcF s.data.toList) = R := ⟨_, rfl⟩
    rw [hR'] at hR ⊢
    have HR := Lib.hid hR
    clear hR hR' hF hF2 hQ hl
    go_enter Tryd.func44, Tryd.ntmps44
    go_wp2_with fail
    refine (body_any s w (by omega)).mono ?_
    rw [HQ.out]
    rintro e w1 ⟨rfl, b1⟩
    have B1 := Lib.hid b1; clear b1
    go_wp2_with fail
    refine (escaped_any Q w1 (HM.out.below B1.out) (by omega)).mono ?_
    rw [HF.out]
    rintro e w2 ⟨rfl, b2⟩
    have B2 := Lib.hid (B1.out.trans (b2.mono B1.out.size)); clear b2
    go_wp2
    go_ret
    exact ⟨ret_s' HR.out, B2.out⟩
  · have hFz : (2048 : Int) < (F.size : Int) := by rw [← hF, mkB_size]; omega
    rw [encB_neg crcF hl]
    clear hF hF2 hQ hl
    go_enter Tryd.func44, Tryd.ntmps44
    go_wp2_with fail
    refine (body_any s w (by omega)).mono ?_
    rw [HQ.out]
    rintro e w1 ⟨rfl, b1⟩
    have B1 := Lib.hid b1; clear b1
    go_wp2_with fail
    refine (escaped_any Q w1 (HM.out.below B1.out) (by omega)).mono ?_
    rw [HF.out]
    rintro e w2 ⟨rfl, b2⟩
    have B2 := Lib.hid (B1.out.trans (b2.mono B1.out.size)); clear b2
    go_wp2
    go_ret
    exact ⟨rfl, B2.out⟩
/-- What payload answers. -/
def payV (o : Option (List UInt8)) : Value := match o with
  | some p => .tuple #[.string (mkB p), .bool true]
  | none => .tuple #[.string ⟨#[]⟩, .bool false]
end Go.Proofs.YtdgejkiackeieaaDoor.Fr
end
section
set_option linter.unusedVariables false
set_option linter.unusedSimpArgs false
/- Layer 23: what a stretch contains. -/
set_option linter.unusedVariables false
set_option linter.unusedSimpArgs false
namespace Go.Proofs.YtdgejkiackeieaaDoor.Fr
open Go.RowKit Go.Proofs.YtdgejkiackeieaaDoor Go.Proofs.YtdgejkiackeieaaDoor.Wr Go.Proofs.YtdgejkiackeieaaDoorW.PrintWords Go.Proofs.YtdgejkiackeieaaDoorW.PrintMore Go.Proofs.YtdgejkiackeieaaDoorW.PrintLast
theorem extract_pre (s : ByteArray) (k : Nat) : s.extract 0 k = mkB (s.data.toList.take k) := by
  apply ext_
  rw [ByteArray.data_extract, Array.toList_extract]
  simp [mkB]
theorem neq_l {x y : ByteArray} (h : ¬ x.data.toList = y.data.toList) : (x.toList == y.toList) = false := by
  rw [ByteArray.toList_eq, ByteArray.toList_eq]; exact beq_eq_false_iff_ne.2 h
theorem eq_l {x y : ByteArray} (h : x.data.toList = y.data.toList) : (x.toList == y.toList) = true := by
  rw [ByteArray.toList_eq, ByteArray.toList_eq, h]; simp
set_option maxHeartbeats 4000000 in
set_option maxRecDepth 100000 in
theorem payload_any (s : ByteArray) (w : World) (hM : MaxW w) : Calls Tryd.prog 107 #[.string s] w fun e w' => e = .returned (payV (payB crcF s.data.toList)) ∧ Below w.heap.size w w' := by
  have HM := Lib.hid hM
  clear hM
  by_cases h1 : s.size ≤ 2048
  · have i1 : ¬ (2048 : Int) < (s.size : Int) := by omega
    obtain ⟨Q, hQ⟩ : ∃ Q, mkB (Lib.replaceAll s.data.toList [125, 94] [126]) = Q := ⟨_, rfl⟩
    have hQz : Q.size ≤ 2048 := by
      rw [← hQ, mkB_size, replaceAll_scan _ _ _ (by simp)]
      exact Nat.le_trans (scan_length [125, 94] [126] (by simp) (by simp) _ s.data.toList) (by rw [len_size]; exact h1)
    obtain ⟨U, hU⟩ : ∃ U, mkB (unescB s.data.toList) = U := ⟨_, rfl⟩
    have hU2 : mkB (Lib.replaceAll Q.data.toList [125, 93] [125]) = U := by rw [← hU, ← hQ]; rfl
    have hUz : U.size ≤ 2048 := by rw [← hU, mkB_size]; have := unesc_length s.data.toList; rw [len_size] at this; omega
    have hUl : U.data.toList = unescB s.data.toList := by rw [← hU]
    have hpe : payB crcF s.data.toList = if 2 ≤ U.size ∧ escB U.data.toList = s.data.toList ∧ bodyB crcF (U.data.toList.take (U.size - 2)) = U.data.toList then some (U.data.toList.take (U.size - 2)) else none := by
      unfold payB
      rw [if_pos (by rw [len_size]; exact h1), ← hUl, len_size]
    rw [hpe]
    have HQ := Lib.hid hQ; have HU := Lib.hid hU2
    clear hQ hU hU2 hUl hpe
    by_cases h2 : 2 ≤ U.size
    · have i2 : ¬ (U.size : Int) < 2 := by omega
      have i2d : decide ((U.size : Int) < 2) = false := decide_eq_false i2
      obtain ⟨E, hE⟩ : ∃ E, mkB (escB U.data.toList) = E := ⟨_, rfl⟩
      have hEl : E.data.toList = escB U.data.toList := by rw [← hE]
      have HE := Lib.hid hE
      by_cases h3 : escB U.data.toList = s.data.toList
      · have i3 : (E.toList == s.toList) = true := eq_l (hEl.trans h3)
        have i3' : E.toList = s.toList := by simpa using i3
        obtain ⟨P, hP⟩ : ∃ P, U.extract 0 (U.size - 2) = P := ⟨_, rfl⟩
        have hPl : P.data.toList = U.data.toList.take (U.size - 2) := by rw [← hP, extract_pre]
        have hPz : P.size ≤ 2048 := by rw [← len_size, hPl, List.length_take, len_size]; omega
        obtain ⟨Y, hY⟩ : ∃ Y, mkB (bodyB crcF P.data.toList) = Y := ⟨_, rfl⟩
        have hYl : Y.data.toList = bodyB crcF (U.data.toList.take (U.size - 2)) := by rw [← hY, ← hPl]
        have hk : (U.size : Int) - 2 = ((U.size - 2 : Nat) : Int) := by omega
        have k0 : (0 : Int) ≤ (U.size : Int) - 2 := by omega
        have kt : ((U.size : Int) - 2).toNat = U.size - 2 := by omega
        have HY := Lib.hid hY; have HP := Lib.hid hP
        by_cases h4 : bodyB crcF (U.data.toList.take (U.size - 2)) = U.data.toList
        · have i4 : (Y.toList == U.toList) = true := eq_l (hYl.trans h4)
          have i4' : Y.toList = U.toList := by simpa using i4
          have hR : mkB (U.data.toList.take (U.size - 2)) = P := by rw [← hPl]
          rw [if_pos ⟨h2, h3, h4⟩]
          unfold payV
          simp only
          rw [hR]
          clear hE hEl hPl hY hYl hP h3 h4 hR
          go_enter Tryd.func107, Tryd.ntmps107
          go_wp2_with fail
          refine (Repl_any s ⟨#[125, 94]⟩ ⟨#[126]⟩ w HM.out (by omega) (by decide) (by decide)).mono ?_
          rw [show mkB (Lib.replaceAll s.data.toList (ByteArray.mk #[125, 94]).data.toList (ByteArray.mk #[126]).data.toList) = Q from HQ.out]
          rintro e w1 ⟨rfl, b1⟩
          have B1 := Lib.hid b1; clear b1
          go_wp2_with fail
          refine (Repl_any Q ⟨#[125, 93]⟩ ⟨#[125]⟩ w1 (HM.out.below B1.out) (by omega) (by decide) (by decide)).mono ?_
          rw [show mkB (Lib.replaceAll Q.data.toList (ByteArray.mk #[125, 93]).data.toList (ByteArray.mk #[125]).data.toList) = U from HU.out]
          rintro e w2 ⟨rfl, b2⟩
          have B2 := Lib.hid (B1.out.trans (b2.mono B1.out.size)); clear b2
          go_wp2_with fail
          refine (escaped_any U w2 (HM.out.below B2.out) (by omega)).mono ?_
          rw [HE.out]
          rintro e w3 ⟨rfl, b3⟩
          have B3 := Lib.hid (B2.out.trans (b3.mono B2.out.size)); clear b3
          go_wp2_with fail
          rw [HP.out]
          refine (body_any P w3 (by omega)).mono ?_
          rw [HY.out]
          rintro e w4 ⟨rfl, b4⟩
          have B4 := Lib.hid (B3.out.trans (b4.mono B3.out.size)); clear b4
          have hPx := HP.out
          go_wp2
          go_ret2
          exact ⟨rfl, B4.out⟩
        · have i4 : (Y.toList == U.toList) = false := neq_l (by rw [hYl]; exact h4)
          have i4' : ¬ Y.toList = U.toList := by simpa using i4
          rw [if_neg (fun h => h4 h.2.2)]
          unfold payV
          simp only
          clear hE hEl hPl hY hYl hP h3 h4
          go_enter Tryd.func107, Tryd.ntmps107
          go_wp2_with fail
          refine (Repl_any s ⟨#[125, 94]⟩ ⟨#[126]⟩ w HM.out (by omega) (by decide) (by decide)).mono ?_
          rw [show mkB (Lib.replaceAll s.data.toList (ByteArray.mk #[125, 94]).data.toList (ByteArray.mk #[126]).data.toList) = Q from HQ.out]
          rintro e w1 ⟨rfl, b1⟩
          have B1 := Lib.hid b1; clear b1
          go_wp2_with fail
          refine (Repl_any Q ⟨#[125, 93]⟩ ⟨#[125]⟩ w1 (HM.out.below B1.out) (by omega) (by decide) (by decide)).mono ?_
          rw [show mkB (Lib.replaceAll Q.data.toList (ByteArray.mk #[125, 93]).data.toList (ByteArray.mk #[125]).data.toList) = U from HU.out]
          rintro e w2 ⟨rfl, b2⟩
          have B2 := Lib.hid (B1.out.trans (b2.mono B1.out.size)); clear b2
          go_wp2_with fail
          refine (escaped_any U w2 (HM.out.below B2.out) (by omega)).mono ?_
          rw [HE.out]
          rintro e w3 ⟨rfl, b3⟩
          have B3 := Lib.hid (B2.out.trans (b3.mono B2.out.size)); clear b3
          go_wp2_with fail
          rw [HP.out]
          refine (body_any P w3 (by omega)).mono ?_
          rw [HY.out]
          rintro e w4 ⟨rfl, b4⟩
          have B4 := Lib.hid (B3.out.trans (b4.mono B3.out.size)); clear b4
          have hPx := HP.out
          go_wp2
          go_ret2
          exact ⟨rfl, B4.out⟩
      · have i3 : (E.toList == s.toList) = false := neq_l (by rw [hEl]; exact h3)
        have i3' : ¬ E.toList = s.toList := by simpa using i3
        rw [if_neg (fun h => h3 h.2.1)]
        unfold payV
        simp only
        clear hE hEl h3
        go_enter Tryd.func107, Tryd.ntmps107
        go_wp2_with fail
        refine (Repl_any s ⟨#[125, 94]⟩ ⟨#[126]⟩ w HM.out (by omega) (by decide) (by decide)).mono ?_
        rw [show mkB (Lib.replaceAll s.data.toList (ByteArray.mk #[125, 94]).data.toList (ByteArray.mk #[126]).data.toList) = Q from HQ.out]
        rintro e w1 ⟨rfl, b1⟩
        have B1 := Lib.hid b1; clear b1
        go_wp2_with fail
        refine (Repl_any Q ⟨#[125, 93]⟩ ⟨#[125]⟩ w1 (HM.out.below B1.out) (by omega) (by decide) (by decide)).mono ?_
        rw [show mkB (Lib.replaceAll Q.data.toList (ByteArray.mk #[125, 93]).data.toList (ByteArray.mk #[125]).data.toList) = U from HU.out]
        rintro e w2 ⟨rfl, b2⟩
        have B2 := Lib.hid (B1.out.trans (b2.mono B1.out.size)); clear b2
        go_wp2_with fail
        refine (escaped_any U w2 (HM.out.below B2.out) (by omega)).mono ?_
        rw [HE.out]
        rintro e w3 ⟨rfl, b3⟩
        have B3 := Lib.hid (B2.out.trans (b3.mono B2.out.size)); clear b3
        go_wp2
        go_ret2
        exact ⟨rfl, B3.out⟩
    · have i2 : (U.size : Int) < 2 := by omega
      have i2d : decide ((U.size : Int) < 2) = true := decide_eq_true i2
      rw [if_neg (fun h => h2 h.1)]
      unfold payV
      simp only
      go_enter Tryd.func107, Tryd.ntmps107
      go_wp2_with fail
      refine (Repl_any s ⟨#[125, 94]⟩ ⟨#[126]⟩ w HM.out (by omega) (by decide) (by decide)).mono ?_
      rw [show mkB (Lib.replaceAll s.data.toList (ByteArray.mk #[125, 94]).data.toList (ByteArray.mk #[126]).data.toList) = Q from HQ.out]
      rintro e w1 ⟨rfl, b1⟩
      have B1 := Lib.hid b1; clear b1
      go_wp2_with fail
      refine (Repl_any Q ⟨#[125, 93]⟩ ⟨#[125]⟩ w1 (HM.out.below B1.out) (by omega) (by decide) (by decide)).mono ?_
      rw [show mkB (Lib.replaceAll Q.data.toList (ByteArray.mk #[125, 93]).data.toList (ByteArray.mk #[125]).data.toList) = U from HU.out]
      rintro e w2 ⟨rfl, b2⟩
      have B2 := Lib.hid (B1.out.trans (b2.mono B1.out.size)); clear b2
      go_wp2
      go_ret2
      exact ⟨rfl, B2.out⟩
  · have i1 : (2048 : Int) < (s.size : Int) := by omega
    rw [payB_long crcF (by rw [len_size]; omega)]
    unfold payV
    simp only
    go_enter Tryd.func107, Tryd.ntmps107
    go_wp2
    go_ret2
    exact ⟨rfl, Below.refl _ _⟩
end Go.Proofs.YtdgejkiackeieaaDoor.Fr
end
section
set_option linter.unusedVariables false
set_option linter.unusedSimpArgs false
/- Layer 23: how a stream falls into stretches, as the library's Cut and LastIndex find them. No program in sight. -/
set_option linter.unusedVariables false
set_option linter.unusedSimpArgs false
namespace Go.Proofs.YtdgejkiackeieaaDoor.Fr
open Go.Proofs.YtdgejkiackeieaaDoor
theorem index_free {a : List UInt8} (h : 126 ∉ a) : Lib.index a [126] = -1 := by
  induction a with
  | nil => rfl
  | cons c a ih =>
    have hc : ¬ (126 : UInt8) = c := fun e => h (by rw [e]; exact List.mem_cons_self ..)
    have := ih (fun e => h (List.mem_cons_of_mem _ e))
    simp [Lib.index, this, List.isPrefixOf, hc]
theorem index_app {a : List UInt8} (h : 126 ∉ a) (b : List UInt8) : Lib.index (a ++ 126 :: b) [126] = (a.length : Int) := by
  induction a with
  | nil => simp [Lib.index, List.isPrefixOf]
  | cons c a ih =>
    have hc : ¬ (126 : UInt8) = c := fun e => h (by rw [e]; exact List.mem_cons_self ..)
    have := ih (fun e => h (List.mem_cons_of_mem _ e))
    have h2 : ¬ ((a.length : Int) = -1) := by omega
    simp [Lib.index, this, List.isPrefixOf, hc, h2]
theorem cut_free {a : List UInt8} (h : 126 ∉ a) : Lib.cut a [126] = (a, [], false) := by
  unfold Lib.cut
  rw [index_free h, if_neg (by decide)]
theorem cut_app {a : List UInt8} (h : 126 ∉ a) (b : List UInt8) : Lib.cut (a ++ 126 :: b) [126] = (a, b, true) := by
  unfold Lib.cut
  rw [index_app h b, if_pos (by omega), Int.toNat_natCast]
  simp
theorem segs_free {a : List UInt8} (h : 126 ∉ a) : segs a = [] := by
  unfold segs; rw [parts_free a h]; rfl
theorem segs_one {a b : List UInt8} (ha : 126 ∉ a) (hb : 126 ∉ b) : segs (a ++ 126 :: b) = [] := by
  unfold segs; rw [parts_app a _ ha, parts_flag, parts_free b hb]; rfl
theorem segs_two {a b : List UInt8} (ha : 126 ∉ a) (hb : 126 ∉ b) (d : List UInt8) : segs (a ++ 126 :: (b ++ 126 :: d)) = b :: segs (126 :: d) := by
  unfold segs
  rw [parts_app a _ ha, parts_flag, parts_app b _ hb, parts_flag]
  simp only [List.append_nil, List.dropLast_cons_cons]
theorem segs_length (l : List UInt8) : (segs l).length ≤ l.length := by
  have h : ∀ l : List UInt8, (parts l).2.length ≤ l.length := by
    intro l
    induction l with
    | nil => exact Nat.le_refl _
    | cons c l ih =>
      by_cases hc : c = 126
      · subst hc; rw [parts_flag]; simp; exact ih
      · rw [parts_ne hc]; simp; omega
  unfold segs
  rw [List.length_dropLast]
  have := h l
  omega
theorem restOf_cons {x : List UInt8} {ys : List (List UInt8)} (h : ys ≠ []) : restOf (x :: ys) = restOf ys := by
  cases ys with
  | nil => exact absurd rfl h
  | cons y ys => exact restOf_append [x] y ys
theorem rest_last (p : List UInt8) {r : List UInt8} (h : 126 ∉ r) : restB (p ++ 126 :: r) = if r.length ≤ 2048 then 126 :: r else [] := by
  have key : ∀ p : List UInt8, (parts (p ++ 126 :: r)).2 ≠ [] ∧ restOf (parts (p ++ 126 :: r)).2 = restOf [r] := by
    intro p
    induction p with
    | nil => rw [List.nil_append, parts_flag, parts_free r h]; exact ⟨by simp, rfl⟩
    | cons c p ih =>
      by_cases hc : c = 126
      · subst hc; rw [List.cons_append, parts_flag]; exact ⟨by simp, (restOf_cons ih.1).trans ih.2⟩
      · rw [List.cons_append, parts_ne hc]; exact ih
  exact (key p).2
/-- The last flag of a stream that has one. -/
theorem last_or (t : List UInt8) : 126 ∉ t ∨ ∃ p r, 126 ∉ r ∧ t = p ++ 126 :: r := by
  induction t with
  | nil => left; simp
  | cons c t ih =>
    rcases ih with h | ⟨p, r, h1, h2⟩
    · by_cases hc : c = 126
      · right; exact ⟨[], t, h, by rw [hc]; rfl⟩
      · left
        intro h'
        rcases List.mem_cons.1 h' with h'' | h''
        · exact hc h''.symm
        · exact h h''
    · right; exact ⟨c :: p, r, h1, by rw [h2]; rfl⟩
theorem get_byte (s : ByteArray) (j : Nat) (h : j < s.size) : s.data[j]! = s.data.toList[j]'(by rw [Array.length_toList]; exact h) := by
  have h2 : j < s.data.size := h
  rw [getElem!_pos s.data j h2]
  simp
theorem lastIdx_free (s : ByteArray) (h : 126 ∉ s.data.toList) : Lib.lastIndexByte s 126 = -1 := by
  rcases Lib.lastIndexByte_spec s 126 with h1 | ⟨i, h1, h2, h3, h4⟩
  · exact h1.1
  · exfalso
    apply h
    have e : s.data[i]!.toNat = 126 := by omega
    rw [get_byte s i h1] at e
    have : s.data.toList[i]'(by rw [Array.length_toList]; exact h1) = 126 := UInt8.toNat_inj.1 e
    rw [← this]
    exact List.getElem_mem _
theorem lastIdx_app (s : ByteArray) {p r : List UInt8} (hr : 126 ∉ r) (h : s.data.toList = p ++ 126 :: r) : Lib.lastIndexByte s 126 = (p.length : Int) := by
  have hz : s.size = p.length + (r.length + 1) := by
    have := congrArg List.length h
    rw [Array.length_toList] at this
    simpa using this
  have hp : p.length < s.size := by omega
  have ep : s.data[p.length]!.toNat = 126 := by
    rw [get_byte s _ hp]
    simp [h]
  rcases Lib.lastIndexByte_spec s 126 with h1 | ⟨i, h1, h2, h3, h4⟩
  · exact absurd (by omega) (h1.2 p.length hp)
  · rw [h2]
    rcases Nat.lt_trichotomy i p.length with hi | hi | hi
    · exact absurd (by omega) (h4 p.length hi hp)
    · rw [hi]
    · exfalso
      apply hr
      have e : s.data[i]!.toNat = 126 := by omega
      rw [get_byte s i h1] at e
      have e2 : s.data.toList[i]'(by rw [Array.length_toList]; exact h1) = 126 := UInt8.toNat_inj.1 e
      have e3 : r[i - p.length - 1]'(by omega) = 126 := by
        rw [← e2]
        simp only [h]
        rw [List.getElem_append_right (by omega), List.getElem_cons]
        rw [dif_neg (by omega)]
      rw [← e3]
      exact List.getElem_mem _
end Go.Proofs.YtdgejkiackeieaaDoor.Fr
end
section
set_option linter.unusedVariables false
set_option linter.unusedSimpArgs false
/- The library's contracts of strings.Cut and strings.LastIndex at this program's numbers. -/
set_option linter.unusedVariables false
namespace Go.Proofs
open Go.Shelf
def Tryd.lays145_ren : Go.Shelf.Ren := ⟨fun | 145 => 137 | 220 => 148 | 219 => 153 | 217 => 125 | 225 => 156 | 224 => 157 | 267 => 158 | 266 => 141 | 314 => 159 | n => n, fun | 9 => 9 | 4 => 4 | 59 => 142 | 3 => 3 | 5 => 5 | 46 => 64 | 146 => 151 | 51 => 97 | n => n, fun | 1 => 4 | n => n⟩
theorem Tryd.lays145 : Go.Proofs.Lays.n145 Tryd.prog Tryd.lays145_ren := {
  mixed := by kernel_rfl
  f145 := Tryd.func137.trans (congrArg some (by kernel_rfl))
  f217 := Tryd.func125.trans (congrArg some (by kernel_rfl))
  f219 := Tryd.func153.trans (congrArg some (by kernel_rfl))
  f220 := Tryd.func148.trans (congrArg some (by kernel_rfl))
  f224 := Tryd.func157.trans (congrArg some (by kernel_rfl))
  f225 := Tryd.func156.trans (congrArg some (by kernel_rfl))
  f266 := Tryd.func141.trans (congrArg some (by kernel_rfl))
  f267 := Tryd.func158.trans (congrArg some (by kernel_rfl))
  f314 := Tryd.func159.trans (congrArg some (by kernel_rfl))
  t3 := Tryd.underlying3
  a3 := Tryd.isAgg3
  z3 := Tryd.sizeOf3
  v3 := Tryd.zeroValue3
  t4 := Tryd.underlying4
  a4 := Tryd.isAgg4
  z4 := Tryd.sizeOf4
  v4 := Tryd.zeroValue4
  t5 := Tryd.underlying5
  a5 := Tryd.isAgg5
  z5 := Tryd.sizeOf5
  v5 := Tryd.zeroValue5
  t9 := Tryd.underlying9
  a9 := Tryd.isAgg9
  z9 := Tryd.sizeOf9
  v9 := Tryd.zeroValue9
  t46 := Tryd.underlying64
  a46 := Tryd.isAgg64
  z46 := Tryd.sizeOf64
  v46 := Tryd.zeroValue64
  t51 := Tryd.underlying97
  a51 := Tryd.isAgg97
  z51 := Tryd.sizeOf97
  v51 := Tryd.zeroValue97
  t59 := Tryd.underlying142
  a59 := Tryd.isAgg142
  z59 := Tryd.sizeOf142
  v59 := Tryd.zeroValue142
  t146 := Tryd.underlying151
  a146 := Tryd.isAgg151
  z146 := Tryd.sizeOf151
  v146 := Tryd.zeroValue151
  g1 := by kernel_rfl }
open Go.RowKit Go.Lib in
theorem Tryd.strings_Cut (s sep : ByteArray) (m : Int) (w : World) (hs : s.size < 4294967281) (hm : w.cell? ⟨4, 0, none⟩ = some (.int .i64 m)) :
    Calls Tryd.prog 137 #[.string s, .string sep] w fun e w' => e = .returned (.tuple #[.string ⟨(Lib.cut s.data.toList sep.data.toList).1.toArray⟩, .string ⟨(Lib.cut s.data.toList sep.data.toList).2.1.toArray⟩, .bool (Lib.cut s.data.toList sep.data.toList).2.2]) ∧ ∃ n, w' = w.drewN n := Any.strings_Cut Tryd.lays145 s sep m w hs hm
def Tryd.lays148_ren : Go.Shelf.Ren := ⟨fun | 148 => 108 | 222 => 138 | 223 => 139 | 269 => 149 | n => n, fun | 9 => 9 | 3 => 3 | 4 => 4 | 5 => 5 | 146 => 151 | 51 => 97 | 46 => 64 | n => n, fun | n => n⟩
theorem Tryd.lays148 : Go.Proofs.Lays.n148 Tryd.prog Tryd.lays148_ren := {
  mixed := by kernel_rfl
  f148 := Tryd.func108.trans (congrArg some (by kernel_rfl))
  f222 := Tryd.func138.trans (congrArg some (by kernel_rfl))
  f223 := Tryd.func139.trans (congrArg some (by kernel_rfl))
  f269 := Tryd.func149.trans (congrArg some (by kernel_rfl))
  t3 := Tryd.underlying3
  a3 := Tryd.isAgg3
  z3 := Tryd.sizeOf3
  v3 := Tryd.zeroValue3
  t4 := Tryd.underlying4
  a4 := Tryd.isAgg4
  z4 := Tryd.sizeOf4
  v4 := Tryd.zeroValue4
  t5 := Tryd.underlying5
  a5 := Tryd.isAgg5
  z5 := Tryd.sizeOf5
  v5 := Tryd.zeroValue5
  t9 := Tryd.underlying9
  a9 := Tryd.isAgg9
  z9 := Tryd.sizeOf9
  v9 := Tryd.zeroValue9
  t46 := Tryd.underlying64
  a46 := Tryd.isAgg64
  z46 := Tryd.sizeOf64
  v46 := Tryd.zeroValue64
  t51 := Tryd.underlying97
  a51 := Tryd.isAgg97
  z51 := Tryd.sizeOf97
  v51 := Tryd.zeroValue97
  t146 := Tryd.underlying151
  a146 := Tryd.isAgg151
  z146 := Tryd.sizeOf151
  v146 := Tryd.zeroValue151 }
open Go.RowKit Go.Lib in
theorem Tryd.strings_LastIndex_one (s sub : ByteArray) (h1 : sub.size = 1) (hs : s.size < 4611686018427387904) (w : World) :
    Calls Tryd.prog 108 #[.string s, .string sub] w fun e w' => e = .returned (.int .i64 (Lib.lastIndexByte s ((sub[0]'(by omega)).toNat : Int))) ∧ w' = w := Any.strings_LastIndex_one Tryd.lays148 s sub h1 hs w
end Go.Proofs
end
section
set_option linter.unusedVariables false
set_option linter.unusedSimpArgs false
/- Layer 23: the iterator over the stretches of a stream, which keeps what is left in a variable of its own. -/
set_option linter.unusedVariables false
set_option linter.unusedSimpArgs false
namespace Go.Proofs.YtdgejkiackeieaaDoor.Fr
open Go.RowKit Go.Proofs.YtdgejkiackeieaaDoor Go.Proofs.YtdgejkiackeieaaDoor.Wr Go.Proofs.YtdgejkiackeieaaDoorW.PrintWords Go.Proofs.YtdgejkiackeieaaDoorW.PrintMore Go.Proofs.YtdgejkiackeieaaDoorW.PrintLast
attribute [local go_sem] Oper.semAt_some
/-- The iterator's variable. -/
def St (W : World) (b : Nat) (s : ByteArray) : Prop := W.heap[b]? = some (.cells #[.string s] 9 (0, 0))
theorem cut_any (s : ByteArray) (w : World) (hM : MaxW w) (hs : s.size ≤ 4000000) : Calls Tryd.prog 137 #[.string s, .string ⟨#[126]⟩] w fun e w' => e = .returned (.tuple #[.string (mkB (Lib.cut s.data.toList [126]).1), .string (mkB (Lib.cut s.data.toList [126]).2.1), .bool (Lib.cut s.data.toList [126]).2.2]) ∧ Below w.heap.size w w' := by
  obtain ⟨⟨m, hm⟩, h5⟩ := hM
  exact (Tryd.strings_Cut s ⟨#[126]⟩ m w (by omega) hm).mono fun e w' ⟨he, n, hw⟩ => ⟨he, by rw [hw]; exact pw_below_drewN (Below.refl _ _) n⟩
/-- What is left to go through, read off the world. -/
def leftOf (b : Nat) (W : World) : Nat := match W.cell? ⟨b, 0, none⟩ with
  | some (.string s) => s.size
  | _ => 0
theorem leftOf_eq {W : World} {b : Nat} {s : ByteArray} (h : St W b s) : leftOf b W = s.size := by
  unfold leftOf
  rw [show W.cell? ⟨b, 0, none⟩ = some (.string s) from (blk_cell h 0).trans rfl]
set_option maxRecDepth 100000 in
set_option maxHeartbeats 4000000 in
theorem stretches_in (n l b : Nat) (cur0 : ByteArray) (J : List (List UInt8) → World → Prop) (W : World) (hn : 1 ≤ n) (hz : cur0.size ≤ 4000000)
    (hJM : ∀ pre W, J pre W → MaxW W) (hJg : ∀ pre W W', J pre W → Below W.heap.size W W' → J pre W') (hJs : ∀ pre W v, J pre W → J pre (W.setCell ⟨b, 0, none⟩ v))
    (hY : ∀ pre x W1, J pre W1 → pre.length < cur0.size → YieldAt Fence.wide (n - 1) Tryd.prog l #[.string (mkB x)] W1 fun e W' => e = .returned (.bool true) ∧ J (pre ++ [x]) W' ∧ W'.heap[b]? = W1.heap[b]?)
    (hS : St W b cur0) (h0 : J [] W) :
    CallsIn Fence.wide n Tryd.prog 136 #[.func (.yield l) #[] #[], .pointer (some ⟨b, 0, none⟩)] W fun e W' => (∃ v, e = .returned v) ∧ J (segs cur0.data.toList) W' := by
  have HJM := Lib.hid hJM; have HJG := Lib.hid hJg; have HJS := Lib.hid hJs; have HY := Lib.hid hY; have HS := Lib.hid hS; have HJ := Lib.hid h0
  clear hJM hJg hJs hY hS h0
  refine callsIn_of_wp Tryd.func136 rfl trivial ?_ rfl
  simp only [Tryd.ntmps136, List.size_toArray, List.length_cons, List.length_nil, Nat.reduceAdd, Nat.reduceSub, Array.replicate_succ, Array.replicate_zero, List.push_toArray, List.append_toArray, List.nil_append, List.cons_append]
  gi_wp2
  gi_loopw [] (fun wr => ∃ (pre : List (List UInt8)) (cur : ByteArray), Hid (St wr b cur) ∧ Hid (J pre wr) ∧ Hid (segs cur0.data.toList = pre ++ segs cur.data.toList) ∧ pre.length + cur.size ≤ cur0.size) (fun wr => leftOf b wr)
  case atStart => exact ⟨[], cur0, HS, HJ, Lib.hid rfl, by simp⟩
  case round =>
    obtain ⟨pre, cur, hS, hJ, hE, hle⟩ := hrel
    have c0 : wr.cell? ⟨b, 0, none⟩ = some (.string cur) := (blk_cell hS.out 0).trans rfl
    rcases free_or cur.data.toList with hfr | ⟨a, b1, ha, hab⟩
    · have hcut := cut_free hfr
      have hseg := segs_free hfr
      have HC := Lib.hid hcut; have HSG := Lib.hid hseg
      clear hfr hcut hseg
      gi_wp2_with fail
      refine ⟨trivial, (callsIn_wide.2 (cut_any cur wr (HJM.out _ _ hJ.out) (by omega))).mono ?_⟩
      rw [HC.out]
      rintro e w1 ⟨rfl, k1⟩
      have hJ1 := HJG.out _ _ _ hJ.out k1
      have hend : J (segs cur0.data.toList) w1 := by rw [hE.out, HSG.out, List.append_nil]; exact hJ1
      have HEND := Lib.hid hend
      clear hJ1 hend k1
      gi_wp2
      refine bodyPost_ret (results_none rfl _ _ _) rfl ?_
      exact ⟨⟨_, rfl⟩, HEND.out⟩
    · have hcut := cut_app ha b1
      rw [← hab] at hcut
      obtain ⟨B1, hB1⟩ : ∃ B1, mkB b1 = B1 := ⟨_, rfl⟩
      have hB1l : B1.data.toList = b1 := by rw [← hB1]
      have hcz : cur.size = a.length + (b1.length + 1) := by
        have := congrArg List.length hab
        rw [len_size] at this
        simpa using this
      have hB1z : B1.size = b1.length := by rw [← hB1, mkB_size]
      have HC := Lib.hid hcut; have HAB := Lib.hid hab; have HA := Lib.hid ha
      clear hcut hab ha
      gi_wp2_with fail
      refine ⟨trivial, (callsIn_wide.2 (cut_any cur wr (HJM.out _ _ hJ.out) (by omega))).mono ?_⟩
      rw [HC.out]
      simp only
      rw [hB1]
      rintro e w1 ⟨rfl, k1⟩
      have hJ1 := Lib.hid (HJG.out _ _ _ hJ.out k1)
      have hS1 : Hid (St w1 b cur) := Lib.hid ((k1.block b (blk_lt hS.out)).trans hS.out)
      clear k1 c0
      rcases free_or b1 with hfr | ⟨s, d, hs, hsd⟩
      · have hcut := cut_free hfr
        rw [← hB1l] at hcut
        have hseg : segs cur.data.toList = [] := by rw [HAB.out]; exact segs_one HA.out hfr
        have HC2 := Lib.hid hcut; have HSG := Lib.hid hseg
        clear hfr hcut hseg hB1 hB1l
        gi_wp2_with fail
        refine ⟨trivial, (callsIn_wide.2 (cut_any B1 w1 (HJM.out _ _ hJ1.out) (by omega))).mono ?_⟩
        rw [HC2.out]
        rintro e w2 ⟨rfl, k2⟩
        have hJ2 := HJG.out _ _ _ hJ1.out k2
        have hend : J (segs cur0.data.toList) w2 := by rw [hE.out, HSG.out, List.append_nil]; exact hJ2
        have HEND := Lib.hid hend
        clear hJ2 hend k2
        gi_wp2
        refine ⟨fun _ h => (by cases h), ?_⟩
        gi_wp2
        refine bodyPost_ret (results_none rfl _ _ _) rfl ?_
        exact ⟨⟨_, rfl⟩, HEND.out⟩
      · have hcut := cut_app hs d
        rw [← hsd, ← hB1l] at hcut
        obtain ⟨X, hX⟩ : ∃ X, mkB s = X := ⟨_, rfl⟩
        have hXz : X.size = s.length := by rw [← hX, mkB_size]
        have hbz : b1.length = s.length + (d.length + 1) := by rw [hsd]; simp
        have hdrop : B1.extract X.size B1.size = mkB (126 :: d) := by
          rw [extract_drop, hB1l, hsd, hXz, List.drop_left]
        have hseg : segs cur.data.toList = s :: segs (126 :: d) := by rw [HAB.out, hsd]; exact segs_two HA.out hs d
        have HC2 := Lib.hid hcut; have HSG := Lib.hid hseg; have HDR := Lib.hid hdrop
        clear hcut hseg hdrop hs hsd hB1 hB1l
        gi_wp2_with fail
        refine ⟨trivial, (callsIn_wide.2 (cut_any B1 w1 (HJM.out _ _ hJ1.out) (by omega))).mono ?_⟩
        rw [HC2.out]
        simp only
        rw [hX]
        rintro e w2 ⟨rfl, k2⟩
        have hJ2 := Lib.hid (HJG.out _ _ _ hJ1.out k2)
        have hS2 : Hid (St w2 b cur) := Lib.hid ((k2.block b (blk_lt hS1.out)).trans hS1.out)
        clear k2
        obtain ⟨fn, tmps, assign, body, hy, hRR⟩ := HY.out pre s w2 hJ2.out (by omega)
        rw [hX] at hy
        have HX := Lib.hid hX
        clear hX
        gi_wp2
        refine hRR.mono ?_
        rintro e w3 ⟨rfl, hJ3, hk3⟩
        have hS3 : St w3 b cur := hk3.trans hS2.out
        have HJ3 := Lib.hid hJ3; have HS3 := Lib.hid hS3
        have c3 : w3.cell? ⟨b, 0, none⟩ = some (.string cur) := (blk_cell hS3 0).trans rfl
        have f3 := blk_frozen hS3 0
        have hd0 : (X.size : Int) ≤ (B1.size : Int) := by omega
        have hnew : (mkB (126 :: d)).size + 1 ≤ cur.size := by rw [mkB_size, List.length_cons]; omega
        have hlen : pre.length + 1 + (mkB (126 :: d)).size ≤ cur0.size := by omega
        have hS4 : St (w3.setCell ⟨b, 0, none⟩ (.string (mkB (126 :: d)))) b (mkB (126 :: d)) := blk_set hS3 0 _
        have hJ4 := HJS.out _ _ (.string (mkB (126 :: d))) HJ3.out
        have hE4 : segs cur0.data.toList = (pre ++ [s]) ++ segs (mkB (126 :: d)).data.toList := by rw [hE.out, HSG.out, List.append_assoc]; rfl
        have hm : leftOf b (w3.setCell ⟨b, 0, none⟩ (.string (mkB (126 :: d)))) < leftOf b wr := by rw [leftOf_eq hS4, leftOf_eq hS.out]; omega
        have HNEW := Lib.hid hnew; have HLEN := Lib.hid hlen; have HS4 := Lib.hid hS4; have HJ4 := Lib.hid hJ4; have HE4 := Lib.hid hE4; have HMS := Lib.hid hm
        clear hJ3 hS3 hk3 hy hnew hlen hS4 hJ4 hE4 hm hXz hbz hcz hB1z
        gi_wp2
        rw [HDR.out]
        exact ⟨⟨pre ++ [s], mkB (126 :: d), HS4, HJ4, HE4, by rw [List.length_append]; exact HLEN.out⟩, HMS.out⟩
end Go.Proofs.YtdgejkiackeieaaDoor.Fr
end
section
set_option linter.unusedVariables false
set_option linter.unusedSimpArgs false
/- Layer 23: a loop over an iterator that keeps a variable of its own: what the loop leaves, by an invariant that the iterator's writing of its variable does not touch. -/
set_option linter.unusedVariables false
set_option linter.unusedSimpArgs false
namespace Go.Proofs.YtdgejkiackeieaaDoor.Fr
open Go.RowKit Go.Proofs.YtdgejkiackeieaaDoor Go.Proofs.YtdgejkiackeieaaDoor.Wr Go.Proofs.YtdgejkiackeieaaDoorW.PrintWords Go.Proofs.YtdgejkiackeieaaDoorW.PrintMore Go.Proofs.YtdgejkiackeieaaDoorW.PrintLast
/-- What the loop keeps beside its invariant: the record of the loop, and the block of the rounds' deferred calls. -/
def Book (L D : Nat) (r : Loop) (W : World) : Prop := W.heap[L]? = some (.loop r) ∧ W.heap[D]? = some (.deferred (some []))
theorem Book.below {L D : Nat} {r : Loop} {W W' : World} (h : Book L D r W) (hb : Below W.heap.size W W') : Book L D r W' :=
  ⟨(hb.block L (Array.getElem?_eq_some_iff.1 h.1).1).trans h.1, (hb.block D (Array.getElem?_eq_some_iff.1 h.2).1).trans h.2⟩
theorem Book.set {L D b : Nat} {r : Loop} {W : World} (h : Book L D r W) (h1 : L ≠ b) (h2 : D ≠ b) (v : Value) : Book L D r (W.setCell ⟨b, 0, none⟩ v) :=
  ⟨(Below.heap_setCell W ⟨b, 0, none⟩ v L h1).trans h.1, (Below.heap_setCell W ⟨b, 0, none⟩ v D h2).trans h.2⟩
theorem Book.keeps {L D : Nat} {r : Loop} {W W' : World} (h : Book L D r W) (hk : KeepsOthers W W') : Book L D r W' := ⟨hk.same _ _ h.1 rfl, hk.same _ _ h.2 rfl⟩
theorem Book.put {L D : Nat} {r : Loop} {W : World} (h : Book L D r W) (hne : D ≠ L) (r' : Loop) : Book L D r' (W.putObj L (.loop r')) :=
  ⟨World.putObj_heap_same (Array.getElem?_eq_some_iff.1 h.1).1, (World.putObj_heap_other hne).trans h.2⟩
/-- The law. -/
theorem range_over {α : Type} {P : Program} {n : Nat} {g : Operand} {ps : Array Tmp} {assign body : Code} {Q : Exit → Act → World → Prop} {a : Act} {w : World} {gf : Nat} {lb : Array Value}
    (h1 : 1 ≤ n) (hg : a.eval g = .func (.func gf) #[] lb) (eg : ∀ args w, (callFunc gf args).run P w = .ok (.enter gf args) w) (encs : α → Array Value) (hps : ∀ x, (encs x).size = ps.size) (b : Nat) (hb : b < w.heap.size) (N : Nat) (xs : List α)
    (I : List α → World → Prop) (hIb : ∀ pre W W', I pre W → Below W.heap.size W W' → I pre W') (hIs : ∀ pre W v, I pre W → I pre (W.setCell ⟨b, 0, none⟩ v))
    (hIp : ∀ pre W l o o', I pre W → w.heap.size ≤ l → W.heap[l]? = some o → o.isCells = false → I pre (W.putObj l o'))
    (hseq : ∀ (l : Nat) (J : List α → World → Prop) (W : World), (∀ pre W, J pre W → I pre W) → (∀ pre W W', J pre W → Below W.heap.size W W' → J pre W') → (∀ pre W v, J pre W → J pre (W.setCell ⟨b, 0, none⟩ v)) →
      (∀ pre x W1, J pre W1 → pre.length < N → YieldAt Fence.wide (n - 1 - 1) P l (encs x) W1 fun e W' => e = .returned (.bool true) ∧ J (pre ++ [x]) W' ∧ W'.heap[b]? = W1.heap[b]?) →
      W.heap[b]? = w.heap[b]? → J [] W → CallsIn Fence.wide (n - 1) P gf (#[.func (.yield l) #[] #[]] ++ lb) W fun e W' => (∃ v, e = .returned v) ∧ J xs W')
    (h0 : I [] w) (a₁ : α → Act)
    (hassign : ∀ (l : Nat) (x : α) (W : World) (K : Act → World → Prop), K (a₁ x) W →
      assign.wpIn (Fence.wide.inRound l) (n - 1 - 1) P (Exit.then K (fun _ _ _ => False)) { tmps := (ps.zip (encs x)).foldl (fun t (p, v) => t.setIfInBounds p v) a.tmps, defers := [] } W)
    (hbody : ∀ (l : Nat) (pre : List α) (x : α) (W : World), I pre W → pre.length < N → body.wpIn (Fence.wide.inRound l) (n - 1 - 1) P (fun e _ W' => e = .normal ∧ KeepsOthers W W' ∧ W'.heap[b]? = W.heap[b]? ∧ I (pre ++ [x]) W') (a₁ x) W)
    (hdone : ∀ (D : Nat) (W : World), w.heap.size ≤ D → I xs W → W.heap[D]? = some (.deferred (some [])) → Q .normal { a with defers := { target := .collected D, args := #[] } :: a.defers } W) :
    (Code.rangeFunc g ps assign body).wpIn Fence.wide n P Q a w := by
  refine wpIn_rangeFunc fun fn hfn => ?_
  obtain ⟨D, hD⟩ : ∃ D, w.heap.size = D := ⟨_, rfl⟩
  obtain ⟨R, hR⟩ : ∃ R : LoopState → Loop, ∀ st, R st = { state := st, pending := none, fn := fn, tmps := a.tmps, params := ps, assign := assign, body := body, defers := D } := ⟨_, fun _ => rfl⟩
  obtain ⟨W1, hW1⟩ : ∃ W1, (w.alloc (.deferred (some []))).alloc (.loop (R .ready)) = W1 := ⟨_, rfl⟩
  have hB1 : Below w.heap.size w W1 := by rw [← hW1]; exact ((Below.refl _ w).alloc (Nat.le_refl _) _).alloc (by simp) _
  have hK1 : Book (D + 1) D (R .ready) W1 := by
    rw [← hW1, ← hD]
    refine ⟨?_, (((Below.refl _ (w.alloc _)).alloc (Nat.le_refl _) _).block w.heap.size (by simp)).trans (heap_alloc_new w _)⟩
    simpa using heap_alloc_new (w.alloc _) (Obj.loop (R .ready))
  have hne : D ≠ D + 1 := by omega
  have hbD : D ≠ b := by omega
  have hbL : D + 1 ≠ b := by omega
  refine ⟨D + 1, [{ target := .collected D, args := #[] }], W1, { target := .fn (.func gf) lb, args := #[.func (.yield (D + 1)) #[] #[]] }, W1, gf, #[.func (.yield (D + 1)) #[] #[]] ++ lb, W1, ?_, ?_, fun _ _ => trivial, ?_, fun _ => h1, ?_⟩
  · show (Instr.enterLoop fn a.tmps ps assign body none).run P w = _
    rw [run_enterLoop_outer, hD, ← hW1, hR]
  · simp only [resolve, hg]
    simp [go_sem]
  · simp [invoke, go_sem, eg]
  · refine (hseq (D + 1) (fun pre W => I pre W ∧ Book (D + 1) D (R .ready) W) W1 (fun _ _ h => h.1) (fun pre W W' h hb' => ⟨hIb pre W W' h.1 hb', h.2.below hb'⟩) (fun pre W v h => ⟨hIs pre W v h.1, h.2.set hbL hbD v⟩) ?_ (hB1.block b hb) ⟨hIb _ _ _ h0 hB1, hK1⟩).mono ?_
    · rintro pre x W ⟨hi, hk⟩ hlen
      have hy := run_yield (P := P) (args := encs x) hk.1 (by rw [hR]; exact hps x)
      rw [hR] at hy
      obtain ⟨W2, hW2⟩ : ∃ W2, W.putObj (D + 1) (.loop { R .ready with state := .busy }) = W2 := ⟨_, rfl⟩
      have hk2 : Book (D + 1) D { R .ready with state := .busy } W2 := by rw [← hW2]; exact hk.put hne _
      have hi2 : I pre W2 := by rw [← hW2]; exact hIp pre W (D + 1) _ _ hi (by omega) hk.1 rfl
      have hb2 : W2.heap[b]? = W.heap[b]? := by rw [← hW2]; exact World.putObj_heap_other (fun e => hbL e.symm)
      refine ⟨fn, _, assign, body, hy, roundIn_of_wpIn hfn (hassign _ x W _ ⟨W2, by rw [← hW2]; exact run_beginRound hk.1 (by rw [hR]), ?_⟩)⟩
      refine wpIn_mono (hbody _ pre x W2 hi2 hlen) ?_
      rintro e a3 W3 ⟨rfl, hk3, hb3, hi3⟩
      have hk4 := hk2.keeps hk3
      refine ⟨_, _, run_endRound (P := P) none hk4.1, ⟨rfl, ⟨hIp _ W3 (D + 1) _ _ hi3 (by omega) hk4.1 rfl, ?_⟩, ?_⟩⟩
      · have := hk4.put hne (R .ready)
        rw [show R .ready = { R .ready with state := if (none : Option Code).isNone then .ready else .done, pending := none } from by rw [hR]; rfl] at this
        rw [hR] at this ⊢
        exact this
      · exact ((World.putObj_heap_other (fun e => hbL e.symm)).trans hb3).trans hb2
    · rintro e W2 ⟨⟨v, rfl⟩, hi, hk⟩
      refine ⟨none, W2.putObj (D + 1) (.loop { R .ready with state := .exhausted }), ?_, ?_⟩
      · have := run_endLoop (P := P) hk.1 (by rw [hR]; simp)
        rw [hR] at this ⊢
        exact this
      · exact hdone D _ (by omega) (hIp _ W2 (D + 1) _ _ hi (by omega) hk.1 rfl) ((World.putObj_heap_other hne).trans hk.2)
end Go.Proofs.YtdgejkiackeieaaDoor.Fr
end
section
set_option linter.unusedVariables false
set_option linter.unusedSimpArgs false
/- Layer 23: Decode. -/
set_option linter.unusedVariables false
set_option linter.unusedSimpArgs false
namespace Go.Proofs.YtdgejkiackeieaaDoor.Fr
open Go.RowKit Go.Proofs.YtdgejkiackeieaaDoor Go.Proofs.YtdgejkiackeieaaDoor.Wr Go.Proofs.YtdgejkiackeieaaDoorW.PrintWords Go.Proofs.YtdgejkiackeieaaDoorW.PrintMore Go.Proofs.YtdgejkiackeieaaDoorW.PrintLast
attribute [local go_sem] Oper.semAt_some
theorem stretches_any (s : ByteArray) (w : World) : Calls Tryd.prog 106 #[.string s] w fun e w' => e = .returned (.func (.func 136) #[] #[.pointer (some ⟨w.heap.size, 0, none⟩)]) ∧ w' = w.alloc (.cells #[.string s] 9) := by
  go_enter Tryd.func106, Tryd.ntmps106
  go_wp2
  go_ret
  exact ⟨rfl, rfl⟩
/-- The payloads of the stretches that have come. -/
def got (pre : List (List UInt8)) : List ByteArray := (pre.filterMap (payB crcF)).map mkB
theorem got_yes (pre : List (List UInt8)) {x p : List UInt8} (h : payB crcF x = some p) : got (pre ++ [x]) = got pre ++ [mkB p] := by simp [got, h]
theorem got_no (pre : List (List UInt8)) {x : List UInt8} (h : payB crcF x = none) : got (pre ++ [x]) = got pre := by simp [got, h]
theorem got_len (pre : List (List UInt8)) : (got pre).length ≤ pre.length := by unfold got; rw [List.length_map]; exact List.length_filterMap_le _ _
/-- What the loop keeps. -/
structure Inv (w0 : World) (B n0 : Nat) (pre : List (List UInt8)) (W : World) : Prop where
  max : MaxW W
  out : ∃ v, Boxed W B 40 v ∧ W.ownsRow n0 9 1 v (got pre).length ((got pre).map Value.string)
  below : Below w0.heap.size w0 W
  size : n0 ≤ W.heap.size
theorem own_block_lt {w : World} {base n : Nat} {e : TypeId} {v : Value} {xs : List Value} (h : w.ownsRow base e 1 v n xs) : ∀ k, v.ownBlock = some k → base ≤ k ∧ ∃ cells, w.heap[k]? = some (.cells cells e (0, 0)) := fun k hk => ⟨own_base h k hk, own_typed h k hk⟩
theorem Inv.below_ {w0 : World} {B n0 : Nat} {pre : List (List UInt8)} {W W' : World} (h : Inv w0 B n0 pre W) (hb : Below W.heap.size W W') : Inv w0 B n0 pre W' := by
  obtain ⟨h1, ⟨v, h2, h3⟩, h4, h5⟩ := h
  refine ⟨h1.below hb, ⟨v, (hb.block B h2.lt).trans h2, own_move h3 (fun k hk => ?_)⟩, h4.trans (hb.mono h4.size), Nat.le_trans h5 hb.size⟩
  obtain ⟨_, cells, hc⟩ := own_block_lt h3 k hk
  exact hb.block k (blk_lt hc)
theorem Inv.set_ {w0 : World} {B n0 b : Nat} {pre : List (List UInt8)} {W : World} (h : Inv w0 B n0 pre W) (hb0 : w0.heap.size ≤ b) (h4b : 5 ≤ b) (hbn : b < n0) (hbB : B ≠ b) (v : Value) : Inv w0 B n0 pre (W.setCell ⟨b, 0, none⟩ v) := by
  obtain ⟨h1, ⟨u, h2, h3⟩, h4, h5⟩ := h
  refine ⟨⟨?_, ?_⟩, ⟨u, (Below.heap_setCell W ⟨b, 0, none⟩ v B hbB).trans h2, own_move h3 (fun k hk => ?_)⟩, below_set h4 hb0, ?_⟩
  · obtain ⟨m, hm⟩ := h1.max
    refine ⟨m, ?_⟩
    rw [← hm]
    unfold World.cell?
    rw [Below.heap_setCell W ⟨b, 0, none⟩ v 4 (by show 4 ≠ b; omega)]
  · have := h1.five; simpa using this
  · obtain ⟨hk1, _⟩ := own_block_lt h3 k hk
    exact Below.heap_setCell W ⟨b, 0, none⟩ v k (by show k ≠ b; omega)
  · simpa using h5
theorem Inv.put_ {w0 : World} {B n0 l : Nat} {o o' : Obj} {pre : List (List UInt8)} {W : World} (h : Inv w0 B n0 pre W) (hl0 : w0.heap.size ≤ l) (h4l : 5 ≤ l) (hl : W.heap[l]? = some o) (ho : o.isCells = false) : Inv w0 B n0 pre (W.putObj l o') := by
  obtain ⟨h1, ⟨u, h2, h3⟩, h4, h5⟩ := h
  have hne : ∀ {k : Nat} {cs : Array Value} {t : TypeId} {fr : Nat × Nat}, W.heap[k]? = some (.cells cs t fr) → k ≠ l := by
    rintro k cs t fr hk rfl
    rw [hl] at hk
    cases hk
    cases ho
  refine ⟨⟨?_, ?_⟩, ⟨u, (World.putObj_heap_other (hne h2)).trans h2, own_move h3 (fun k hk => ?_)⟩, h4.grown (grownBy_putObj' W l o') h4.size (fun k e => by cases e; exact hl0), ?_⟩
  · obtain ⟨m, hm⟩ := h1.max
    refine ⟨m, ?_⟩
    rw [← hm]
    unfold World.cell?
    rw [show (W.putObj l o').heap[4]? = W.heap[4]? from World.putObj_heap_other (by omega)]
  · have := h1.five; simpa using this
  · obtain ⟨_, cells, hc⟩ := own_block_lt h3 k hk
    exact World.putObj_heap_other (hne hc)
  · simpa using h5
/-- What an append to the row, stored back into the variable, leaves. -/
theorem appended_ {w0 w1 w2 : World} {B n0 : Nat} {t e : TypeId} {v v' : Value} {k m : Nat} {xs ys : List Value} {tmp : Obj} (hv : Boxed w1 B t v) (hrow : w1.ownsRow n0 e 1 v k xs) (hn0 : n0 ≤ w1.heap.size) (hB0 : w0.heap.size ≤ B) (hB : B < n0) (hb : Below w0.heap.size w0 w1)
    (hown' : w2.ownsRow n0 e 1 v' m ys) (hgrow : (w1.alloc tmp).grownBy w2 v.ownBlock) :
    Boxed w2 B t v ∧ Boxed (w2.setCell ⟨B, 0, none⟩ v') B t v' ∧ (w2.setCell ⟨B, 0, none⟩ v').ownsRow n0 e 1 v' m ys ∧ KeepsOthers w1 (w2.setCell ⟨B, 0, none⟩ v') ∧ (∀ b, b < n0 → b ≠ B → (w2.setCell ⟨B, 0, none⟩ v').heap[b]? = w1.heap[b]?) ∧ Below w0.heap.size w0 (w2.setCell ⟨B, 0, none⟩ v') ∧ n0 ≤ (w2.setCell ⟨B, 0, none⟩ v').heap.size := by
  have hsz : w1.heap.size + 1 ≤ w2.heap.size := by have := hgrow.size; simpa using this
  have hkeep : ∀ i, i < w1.heap.size → some i ≠ v.ownBlock → w2.heap[i]? = w1.heap[i]? := fun i hi hne =>
    (hgrow.block i (by simp; omega) hne).trans (((Below.refl _ w1).alloc (Nat.le_refl _) tmp).block i hi)
  have hlow : ∀ i, i < n0 → some i ≠ v.ownBlock := fun i hi e => by have := own_base hrow i e.symm; omega
  have h1 : Boxed w2 B t v := (hkeep B (by omega) (hlow B hB)).trans hv
  refine ⟨h1, blk_set h1 0 v', own_move hown' (fun k hk => ?_), ⟨by simp; omega, fun k o hk ho => ?_⟩, fun b hbn hbB => ?_, ?_, by simp; omega⟩
  · have := own_base hown' k hk
    exact Below.heap_setCell w2 ⟨B, 0, none⟩ v' k (by show k ≠ B; omega)
  · have hkB : k ≠ B := by
      rintro rfl
      rw [show w1.heap[k]? = _ from hv] at hk
      cases hk; cases ho
    rw [Below.heap_setCell w2 ⟨B, 0, none⟩ v' k hkB, hkeep k (Array.getElem?_eq_some_iff.1 hk).1 ?_]
    · exact hk
    · intro e
      obtain ⟨cells, hc⟩ := own_typed hrow k e.symm
      rw [hc] at hk
      cases hk; cases ho
  · rw [Below.heap_setCell w2 ⟨B, 0, none⟩ v' b hbB]
    exact hkeep b (by omega) (hlow b hbn)
  · exact below_set ((hb.alloc hb.size tmp).grown hgrow (by have := hb.size; simp; omega) (fun k e => by have := own_base hrow k e; omega)) hB0
set_option maxRecDepth 100000 in
set_option maxHeartbeats 4000000 in
theorem Decode_in (s : ByteArray) (w : World) (hM : MaxW w) (hs : s.size ≤ 4000000) :
    CallsIn Fence.wide 5 Tryd.prog 45 #[.string s] w fun e w' => ∃ v, e = .returned (.tuple #[v, .string (mkB (restB s.data.toList))]) ∧ w'.ownsRow w.heap.size 9 1 v ((pays crcF s.data.toList).map mkB).length (((pays crcF s.data.toList).map mkB).map Value.string) ∧ Below w.heap.size w w' := by
  have HM := Lib.hid hM
  have h5 : 5 ≤ w.heap.size := hM.five
  obtain ⟨i0, hi, hz0, hz1, hz2⟩ := info_parts info9
  clear hM
  obtain ⟨RS, hRS⟩ : ∃ R, mkB (restB s.data.toList) = R := ⟨_, rfl⟩
  rw [hRS]
  have HRS := Lib.hid hRS
  clear hRS
  refine callsIn_of_wp_marks Tryd.func45 rfl trivial ?_ rfl
  simp only [Tryd.ntmps45, List.size_toArray, List.length_cons, List.length_nil, Nat.reduceAdd, Nat.reduceSub, Array.replicate_succ, Array.replicate_zero, List.push_toArray, List.append_toArray, List.nil_append, List.cons_append]
  gi_wp2_with fail
  refine ⟨trivial, (callsIn_wide.2 (stretches_any s _)).mono ?_⟩
  rintro e w1 ⟨rfl, rfl⟩
  gi_wp2_with fail
  obtain ⟨W0, hW0⟩ : ∃ W0, (w.alloc (Obj.cells #[Value.slice none 0 0] 40)).alloc (Obj.cells #[Value.string s] 9) = W0 := ⟨_, rfl⟩
  have hsz : W0.heap.size = w.heap.size + 2 := by rw [← hW0]; simp
  have hB0 : Below w.heap.size w W0 := by rw [← hW0]; exact ((Below.refl _ w).alloc (Nat.le_refl _) _).alloc (by simp) _
  have hO0 : Boxed W0 w.heap.size 40 (.slice none 0 0) := by
    rw [← hW0]; exact (((Below.refl _ (w.alloc _)).alloc (Nat.le_refl _) _).block w.heap.size (by simp)).trans (heap_alloc_new w _)
  have hS0 : St W0 (w.heap.size + 1) s := by rw [← hW0]; unfold St; simpa using heap_alloc_new (w.alloc _) _
  rw [hW0]
  have hI0 : Inv w w.heap.size (w.heap.size + 2) [] W0 := ⟨HM.out.below hB0, ⟨_, hO0, World.ownsRow_nil _ _ _ _⟩, hB0, by omega⟩
  have HSZ := Lib.hid hsz
  clear hW0 hO0
  refine range_over (n := 5) (by omega) (gf := 136) (lb := #[.pointer (some ⟨w.heap.size + 1, 0, none⟩)]) rfl (enters_of Tryd.func136 (by kernel_rfl) rfl) (fun x => #[.string (mkB x)]) (fun _ => rfl) (w.heap.size + 1) (by omega) s.size (segs s.data.toList)
    (Inv w w.heap.size (w.heap.size + 2)) (fun _ _ _ h hb => h.below_ hb) (fun _ _ v h => h.set_ (by omega) (by omega) (by omega) (by omega) v) (fun _ _ l o o' h hl ho hc => h.put_ (by omega) (by omega) ho hc)
    (fun l J W hJI hJb hJs hY hWb h0 => stretches_in 4 l (w.heap.size + 1) s J W (by omega) hs (fun pre W h => (hJI pre W h).max) hJb hJs hY (hWb.trans hS0) h0) hI0
    (fun x => { tmps := #[Value.string s, undef, Value.slice none 0 0, Value.string { data := #[] }, Value.pointer (some { block := w.heap.size, off := 0 }), Value.string (mkB x), undef, undef, undef, Value.string s, Value.func (Fn.func 136) #[] #[Value.pointer (some { block := w.heap.size + 1, off := 0 })], Value.string (mkB x), undef, undef, undef, undef, undef, undef, undef, undef, undef, undef, undef, undef, undef, undef, undef, undef, undef, undef, undef, undef, undef, undef, undef, undef, undef, undef, undef], defers := [] }) ?assign ?body ?done
  case assign =>
    intro l x W K hK
    gi_wp2
    exact hK
  case body =>
    intro l pre x W hI hlt
    obtain ⟨hMX, ⟨v, hv, hrow⟩, hB, hS⟩ := hI
    have HMX := Lib.hid hMX; have HB := Lib.hid hB; have HS := Lib.hid hS
    clear hMX hB hS hS0 hI0 hB0 hsz
    gi_wp2_with fail
    refine ⟨trivial, (CallsIn.inRound l (callsIn_wide.2 (payload_any (mkB x) W HMX.out))).mono ?_⟩
    rw [mkB_list]
    cases hp : payB crcF x with
    | none =>
      unfold payV
      simp only
      rintro e w1 ⟨rfl, k1⟩
      have hI1 : Inv w w.heap.size (w.heap.size + 2) (pre ++ [x]) w1 := by
        have := Inv.below_ (pre := pre) ⟨HMX.out, ⟨v, hv, hrow⟩, HB.out, HS.out⟩ k1
        obtain ⟨a1, ⟨u, a2, a3⟩, a4, a5⟩ := this
        exact ⟨a1, ⟨u, a2, by rw [got_no pre hp]; exact a3⟩, a4, a5⟩
      have hko : KeepsOthers W w1 := ⟨k1.size, fun k o hk _ => (k1.block k (Array.getElem?_eq_some_iff.1 hk).1).trans hk⟩
      have hbb : w1.heap[w.heap.size + 1]? = W.heap[w.heap.size + 1]? := k1.block _ (by have := HS.out; omega)
      clear k1 hv hrow
      gi_wp2
    | some p =>
      unfold payV
      simp only
      rintro e w1 ⟨rfl, k1⟩
      have hko : KeepsOthers W w1 := ⟨k1.size, fun k o hk _ => (k1.block k (Array.getElem?_eq_some_iff.1 hk).1).trans hk⟩
      have hbb : w1.heap[w.heap.size + 1]? = W.heap[w.heap.size + 1]? := k1.block _ (by have := HS.out; omega)
      obtain ⟨a1, ⟨u, hu, hro⟩, a4, a5⟩ := Inv.below_ (pre := pre) ⟨HMX.out, ⟨v, hv, hrow⟩, HB.out, HS.out⟩ k1
      have hlg : (got pre).length ≤ 4000000 := by have := got_len pre; omega
      have hc := hu.cell
      have A4 := Lib.hid a4; have A5 := Lib.hid a5; have HKO := Lib.hid hko; have HBB := Lib.hid hbb; have HP := Lib.hid hp
      clear k1 hv hrow a1 a4 hko hbb hp
      gi_wp2_with (gi_at_builtin; refine wpListIn_append_own _ rfl _ _ 40 rfl (w.heap.size + 2) 9 i0 (.string ⟨#[]⟩) 1 16 Tryd.underlying40 hi hz0 hz1 hz2 rfl (by decide) _ _ _ rfl (hro.alloc _) ⟨w1.heap.size, 0, none⟩ 1 1 [.string (mkB p)] rfl rfl (cell_one_new _ _ _) (by simp [Value.oneCell']) (by unfold maxLen; omega) (by omega) (by have := A5.out; simp; omega) ?_; intro v' w2 hown' hgrow _; obtain ⟨g', cap', rfl⟩ := ownsRow_succ hown'; obtain ⟨q1, q2, q3, q4, q5, q6, q7⟩ := appended_ hu hro A5.out (Nat.le_refl _) (by omega) A4.out hown' hgrow; have hc1 := q1.cell; have hf1 := q1.frozen; clear hown' hgrow)
      exact ⟨HKO.out.trans q4, HBB.out, ⟨HM.out.below q6, ⟨_, q2, by rw [got_yes pre HP.out]; simpa using q3⟩, q6, q7⟩⟩
  case done =>
    intro D W hD hI hK
    obtain ⟨hMX, ⟨v, hv, hrow⟩, hB, hS⟩ := hI
    have HB := Lib.hid hB; have HV := Lib.hid hv; have HROW := Lib.hid hrow; have HK := Lib.hid hK; have HD := Lib.hid hD
    have hfin : ∀ W2, W2.heap[D]? = some (.deferred (some [])) → Below W.heap.size W W2 → Hid ((W2.putObj D (.deferred none)).ownsRow w.heap.size 9 1 v ((pays crcF s.data.toList).map mkB).length (((pays crcF s.data.toList).map mkB).map Value.string) ∧ Below w.heap.size w (W2.putObj D (.deferred none))) := by
      intro W2 hK2 hb2
      have hr2 : W2.ownsRow (w.heap.size + 2) 9 1 v (got (segs s.data.toList)).length ((got (segs s.data.toList)).map Value.string) := own_move hrow (fun k hk => hb2.block k (by obtain ⟨_, cells, hc⟩ := own_block_lt hrow k hk; exact blk_lt hc))
      exact Lib.hid ⟨own_weaken (ownsRow_putObj hr2 _ hK2 rfl) (by omega), (hB.trans (hb2.mono hB.size)).trans (belowK_b (Nat.le_refl _) W2 D _ _ (by omega) hK2 rfl rfl)⟩
    have HF := Lib.hid hfin
    clear hMX hv hrow hB hK hD hfin hS0 hI0 hB0
    rcases last_or s.data.toList with hfr | ⟨p, r, hr, hpr⟩
    · have hli := lastIdx_free s hfr
      have hrest : restB s.data.toList = [] := (pays_free crcF hfr).2
      have HLI := Lib.hid hli
      have HR0 : Hid (RS = ⟨#[]⟩) := Lib.hid (by rw [← HRS.out, hrest])
      clear hfr hli hrest
      gi_wp2_with fail
      refine ⟨trivial, (callsIn_wide.2 (Tryd.strings_LastIndex_one s ⟨#[126]⟩ rfl (by omega) W)).mono ?_⟩
      rw [show Lib.lastIndexByte s ((((⟨#[126]⟩ : ByteArray)[0]'(by decide)).toNat : Nat) : Int) = -1 from HLI.out]
      rintro e w1 ⟨rfl, rfl⟩
      have hc := HV.out.cell
      gi_wp2
      refine ⟨by simp, .inl ⟨_, _, rfl, run_takeDeferred HK.out, ?_⟩⟩
      exact ⟨_, results_tmp2 rfl _ _ _, v, by rw [HR0.out]; rfl, (HF.out _ HK.out (Below.refl _ _)).out.1, (HF.out _ HK.out (Below.refl _ _)).out.2⟩
    · have hli := lastIdx_app s hr hpr
      have hrest := rest_last p hr
      rw [← hpr] at hrest
      have hsz2 : s.size = p.length + (r.length + 1) := by
        have := congrArg List.length hpr
        rw [len_size] at this
        simpa using this
      have HLI := Lib.hid hli
      have hex : s.extract p.length s.size = mkB (126 :: r) := by rw [extract_drop, hpr, List.drop_left]
      have hc := HV.out.cell
      by_cases h48 : r.length ≤ 2048
      · have HR0 : Hid (RS = s.extract p.length s.size) := Lib.hid (by rw [← HRS.out, hrest, if_pos h48, hex])
        clear hr hpr hli hrest hex
        have i1 : ¬ (p.length : Int) < 0 := by omega
        have i2 : ¬ (2048 : Int) < (s.size : Int) - (p.length : Int) - 1 := by omega
        have i3 : (p.length : Int) ≤ (s.size : Int) := by omega
        have HSZ2 := Lib.hid hsz2; clear hsz2
        gi_wp2_with fail
        refine ⟨trivial, (callsIn_wide.2 (Tryd.strings_LastIndex_one s ⟨#[126]⟩ rfl (by omega) W)).mono ?_⟩
        rw [show Lib.lastIndexByte s ((((⟨#[126]⟩ : ByteArray)[0]'(by decide)).toNat : Nat) : Int) = (p.length : Int) from HLI.out]
        rintro e w1 ⟨rfl, rfl⟩
        have i0 : (0 : Int) ≤ (p.length : Int) := by omega
        have hdr : w1.drew.cell? ⟨w.heap.size, 0, none⟩ = some v := hc
        gi_wp2
        gi_region
        all_goals
          gi_wp2
          refine ⟨by simp, .inl ⟨_, _, rfl, run_takeDeferred (show w1.drew.heap[D]? = _ from HK.out), ?_⟩⟩
          exact ⟨_, results_tmp2 rfl _ _ _, v, by rw [HR0.out]; rfl, (HF.out w1.drew HK.out (below_drew (Below.refl _ _))).out.1, (HF.out w1.drew HK.out (below_drew (Below.refl _ _))).out.2⟩
      · have HR0 : Hid (RS = ⟨#[]⟩) := Lib.hid (by rw [← HRS.out, hrest, if_neg h48])
        clear hr hpr hli hrest hex
        have i1 : ¬ (p.length : Int) < 0 := by omega
        have i2 : (2048 : Int) < (s.size : Int) - (p.length : Int) - 1 := by omega
        have HSZ2 := Lib.hid hsz2; clear hsz2
        gi_wp2_with fail
        refine ⟨trivial, (callsIn_wide.2 (Tryd.strings_LastIndex_one s ⟨#[126]⟩ rfl (by omega) W)).mono ?_⟩
        rw [show Lib.lastIndexByte s ((((⟨#[126]⟩ : ByteArray)[0]'(by decide)).toNat : Nat) : Int) = (p.length : Int) from HLI.out]
        rintro e w1 ⟨rfl, rfl⟩
        gi_wp2
        refine ⟨by simp, .inl ⟨_, _, rfl, run_takeDeferred HK.out, ?_⟩⟩
        exact ⟨_, results_tmp2 rfl _ _ _, v, by rw [HR0.out]; rfl, (HF.out _ HK.out (Below.refl _ _)).out.1, (HF.out _ HK.out (Below.refl _ _)).out.2⟩
/-- The payloads of a stream. -/
def decL (s : ByteArray) : List ByteArray := (pays crcF s.data.toList).map mkB
theorem Decode_any (s : ByteArray) (w : World) (hM : MaxW w) (hs : s.size ≤ 4000000) :
    Calls Tryd.prog 45 #[.string s] w fun e w' => ∃ v, e = .returned (.tuple #[v, .string (mkB (restB s.data.toList))]) ∧ Kd.R Kd.string 9 w' w.heap.size (fun _ => True) v (decL s) ∧ Below w.heap.size w w' :=
  (callsIn_wide.1 (Decode_in s w hM hs)).mono fun e w' ⟨v, h1, h2, h3⟩ => ⟨v, h1, Kd.R_of_own (h1 := fun _ => rfl) h2 (fun _ _ => trivial), h3⟩
end Go.Proofs.YtdgejkiackeieaaDoor.Fr
end
section
set_option linter.unusedVariables false
set_option linter.unusedSimpArgs false
/- The order of the encodings of layer 2: two encodings of one kind differ at a byte, and there as their values do. No program in sight. -/
set_option linter.unusedVariables false
set_option linter.unusedSimpArgs false
namespace Go.Proofs.YtdgejkiackeieaaDoor.Wr
/-- Two strings differ at a byte: -1 if the first one's is less, 1 if it is greater. -/
def Diff (c : Int) (s t : List UInt8) : Prop := ∃ p a b s' t', s = p ++ a :: s' ∧ t = p ++ b :: t' ∧ ((a < b ∧ c = -1) ∨ (b < a ∧ c = 1))
theorem Diff.pre {c : Int} {s t : List UInt8} (h : Diff c s t) (q : List UInt8) : Diff c (q ++ s) (q ++ t) := by
  obtain ⟨p, a, b, s', t', rfl, rfl, hc⟩ := h
  exact ⟨q ++ p, a, b, s', t', by simp, by simp, hc⟩
theorem Diff.cons {c : Int} {s t : List UInt8} (h : Diff c s t) (x : UInt8) : Diff c (x :: s) (x :: t) := h.pre [x]
theorem Diff.here {a b : UInt8} (h : a < b) (s t : List UInt8) : Diff (-1) (a :: s) (b :: t) := ⟨[], a, b, s, t, rfl, rfl, .inl ⟨h, rfl⟩⟩
theorem u8_lt_irrefl (a : UInt8) : ¬ a < a := by rw [UInt8.lt_iff_toNat_lt]; omega
theorem u8_lt_asymm {a b : UInt8} (h : a < b) : ¬ b < a := by rw [UInt8.lt_iff_toNat_lt] at *; omega
theorem Diff.prefix {c : Int} {s t : List UInt8} (h : Diff c s t) : ¬ s <+: t := by
  obtain ⟨p, a, b, s', t', rfl, rfl, hc⟩ := h
  rw [List.prefix_append_right_inj, List.cons_prefix_cons]
  rintro ⟨rfl, _⟩
  rcases hc with ⟨h, _⟩ | ⟨h, _⟩ <;> exact u8_lt_irrefl _ h
theorem less_pre (p s t : List UInt8) : Op.bytesLess (p ++ s) (p ++ t) = Op.bytesLess s t := by
  induction p with
  | nil => rfl
  | cons a p ih => simp only [List.cons_append, Op.bytesLess, ih]; simp [u8_lt_irrefl]
theorem Diff.less {c : Int} {s t : List UInt8} (h : Diff c s t) : Op.bytesLess s t = decide (c = -1) := by
  obtain ⟨p, a, b, s', t', rfl, rfl, hc⟩ := h
  rw [less_pre]
  rcases hc with ⟨h, rfl⟩ | ⟨h, rfl⟩
  · simp [Op.bytesLess, h]
  · have h1 := u8_lt_asymm h
    have h2 : a ≠ b := fun e => u8_lt_irrefl b (e ▸ h)
    simp [Op.bytesLess, h1, h2]
/-! ### integers -/
/-! ### strings -/
/-! ### lists -/
end Go.Proofs.YtdgejkiackeieaaDoor.Wr
end
section
set_option linter.unusedVariables false
set_option linter.unusedSimpArgs false
/- The laws' own small functions of layer 2: light, write, all, text, number, compare. -/
set_option linter.unusedVariables false
set_option linter.unusedSimpArgs false
namespace Go.Proofs.YtdgejkiackeieaaDoor.Wr
open Go.RowKit Go.Proofs.YtdgejkiackeieaaDoor Go.Proofs.YtdgejkiackeieaaDoor.PWr Go.Proofs.YtdgejkiackeieaaDoorW.PrintWords Go.Proofs.YtdgejkiackeieaaDoorW.PrintMore Go.Proofs.YtdgejkiackeieaaDoorW.PrintLast
/-- The five cells of an element, as the walk spells their places. -/
structure Cells5 (w : World) (a : Addr) (v : V5) : Prop where
  c0 : w.cell? a = some (.int .i64 v.k)
  c1 : w.cell? ⟨a.block, a.off + 1, none⟩ = some (.int .i64 v.n)
  c2 : w.cell? ⟨a.block, a.off + 2, none⟩ = some (.string v.s)
  c3 : w.cell? ⟨a.block, a.off + 3, none⟩ = some (.slice v.la v.l.length v.lc)
  c4 : w.cell? ⟨a.block, a.off + 4, none⟩ = some (.slice v.ta v.t.length v.tc)
end Go.Proofs.YtdgejkiackeieaaDoor.Wr
end
section
set_option linter.unusedVariables false
set_option linter.unusedSimpArgs false
/- The laws' own functions of layer 23: Same, small, short. -/
set_option linter.unusedVariables false
set_option linter.unusedSimpArgs false
namespace Go.Proofs.YtdgejkiackeieaaDoor.Fr
open Go.RowKit Go.Proofs.YtdgejkiackeieaaDoor Go.Proofs.YtdgejkiackeieaaDoor.Wr Go.Proofs.YtdgejkiackeieaaDoorW.PrintWords Go.Proofs.YtdgejkiackeieaaDoorW.PrintMore Go.Proofs.YtdgejkiackeieaaDoorW.PrintLast
set_option maxHeartbeats 4000000 in
set_option maxRecDepth 100000 in
theorem Same_any (A : Option Addr) (c : Nat) (l : List ByteArray) (A' : Option Addr) (c' : Nat) (l' : List ByteArray) (w : World) (hR : Kd.C Kd.string w A l.length l) (hc : l.length ≤ c) (hR' : Kd.C Kd.string w A' l'.length l') (hc' : l'.length ≤ c') :
    Calls Tryd.prog 63 #[.slice A l.length c, .slice A' l'.length c'] w fun e w' => e = .returned (.bool (decide (l = l'))) ∧ Below w.heap.size w w' := by
  have hz := hR.2.1
  have hz' := hR'.2.1
  have HR := Lib.hid hR; have HR' := Lib.hid hR'
  clear hR hR'
  by_cases hl : l.length = l'.length
  · obtain ⟨R, hD⟩ : ∃ R, decide (l = l') = R := ⟨_, rfl⟩
    rw [hD]
    have HD := Lib.hid hD
    have HL := Lib.hid hl
    have i1 : ((l.length : Int) != (l'.length : Int)) = false := by simp; omega
    have i2 : ((l.length : Int) == (l'.length : Int)) = true := by simp; omega
    clear hD hl
    go_enter Tryd.func63, Tryd.ntmps63
    go_wp2_with fail
    clear i1 i2
    go_loopw [5] (fun i wr => ∃ k : Nat, k ≤ l.length ∧ i = .int .i64 k ∧ Hid (l.take k = l'.take k) ∧ Hid (Below w.heap.size w wr)) (fun i _ => l.length - (intOf i).toNat)
    case atStart => exact ⟨0, by omega, rfl, Lib.hid rfl, Lib.hid (Below.refl _ _)⟩
    case round =>
      obtain ⟨k, hk, rfl, hE, hB⟩ := hrel
      by_cases hlt : k < l.length
      · have hlt' : k < l'.length := by have := HL.out; omega
        obtain ⟨ad, e1, x1⟩ := Kd.at_string (Kd.C_below HR.out hB.out) (k : Int) (by omega) (by omega)
        obtain ⟨ad', e2, x2⟩ := Kd.at_string (Kd.C_below HR'.out hB.out) (k : Int) (by omega) (by omega)
        rw [Int.toNat_natCast] at x1 x2
        rw [rdOf_nat k hlt] at x1
        rw [rdOf_nat k hlt'] at x2
        obtain ⟨x, hx⟩ : ∃ x, l[k] = x := ⟨_, rfl⟩
        obtain ⟨y, hy⟩ : ∃ y, l'[k] = y := ⟨_, rfl⟩
        rw [hx] at x1
        rw [hy] at x2
        have gx : l[k]? = some x := List.getElem?_eq_some_iff.2 ⟨hlt, hx⟩
        have gy : l'[k]? = some y := List.getElem?_eq_some_iff.2 ⟨hlt', hy⟩
        have GX := Lib.hid gx; have GY := Lib.hid gy
        have j0 : (0 : Int) ≤ (k : Int) := by omega
        have j1 : (k : Int) < (l.length : Int) := by omega
        have j2 : (k : Int) < (l'.length : Int) := by omega
        subst e1 e2
        clear hx hy gx gy
        by_cases he : x = y
        · have hb2 : (x.toList == y.toList) = true := by rw [he]; simp
          have hb3 : x.toList = y.toList := by rw [he]
          have hE2 : Hid (l.take (k + 1) = l'.take (k + 1)) := Lib.hid (by rw [List.take_add_one, List.take_add_one, hE.out, GX.out, GY.out, he])
          have HE := Lib.hid he
          clear he hE
          go_wp2_with fail
          go_quiet (fail)
          clear x1 x2 HE hb2 hb3
          go_wp2_with fail
          go_roundw
          case rel => exact ⟨k + 1, by omega, by go_num, hE2, Lib.hid (pw_below_drewN hB.out _)⟩
          case measure => simp [intOf]; omega
        · have hb3 : ¬ x.toList = y.toList := fun e => he (ext_ (by rw [ByteArray.toList_eq, ByteArray.toList_eq] at e; exact e))
          have hb2 : (x.toList == y.toList) = false := beq_eq_false_iff_ne.2 hb3
          have hr : R = false := by
            rw [← HD.out, decide_eq_false_iff_not]
            rintro h
            have h1 := GX.out
            rw [h, GY.out] at h1
            exact he (Option.some.inj h1).symm
          have HRR := Lib.hid hr
          clear he hr
          go_wp2_with fail
          go_quiet (fail)
          go_wp2
          go_ret
          exact ⟨by rw [HRR.out]; rfl, pw_below_drewN hB.out _⟩
      · obtain rfl : k = l.length := by omega
        have hr : R = true := by
          rw [← HD.out, decide_eq_true_iff]
          have := hE.out
          rwa [List.take_length, HL.out, List.take_length] at this
        have HRR := Lib.hid hr
        clear hr
        go_wp2
        go_ret
        exact ⟨by rw [HRR.out]; rfl, hB.out⟩
  · have hD : decide (l = l') = false := by rw [decide_eq_false_iff_not]; rintro rfl; exact hl rfl
    rw [hD]
    have i1 : ((l.length : Int) != (l'.length : Int)) = true := by simp; omega
    have i2 : ((l.length : Int) == (l'.length : Int)) = false := by simp; omega
    clear hD
    go_enter Tryd.func63, Tryd.ntmps63
    go_wp2
    go_ret
    exact ⟨rfl, Below.refl _ _⟩
/-! ### the fixed example -/
theorem enc_nil : encB crcF [] = [126, 0, 0, 126] := by decide +kernel
theorem pays_small : pays crcF [49, 126, 0, 0, 126, 0, 0, 126, 50] = [[], []] := by decide +kernel
theorem rest_small : restB [49, 126, 0, 0, 126, 0, 0, 126, 50] = [126, 50] := by decide +kernel
theorem two_back : Back crcF ([120] ++ encB crcF [97, 126, 125] ++ encB crcF [98]) [[97, 126, 125], [98]] := by
  have h0 : Back crcF [120] [] := Back.start crcF (by decide)
  have h1 := Back.step crcF h0 [97, 126, 125]
  rw [if_neg (encB_short crcF (by decide))] at h1
  have h2 := Back.step crcF h1 [98]
  rw [if_neg (encB_short crcF (by decide))] at h2
  exact h2
theorem texts_two (w : World) (x y : ByteArray) : Kd.C Kd.string (w.alloc (Obj.cells #[Value.string x, Value.string y] 9)) (some ⟨w.heap.size, 0, none⟩) [x, y].length [x, y] := by
  have hb := heap_alloc_new w (Obj.cells #[Value.string x, Value.string y] 9)
  refine Kd.C_of_reads (enc := Value.string) (d := ByteArray.empty) (h1 := fun _ => rfl) ⟨rfl, (show (2 : Nat) ≤ 9223372036854775807 from by decide), fun _ => ⟨_, rfl, fun j hj => ?_⟩⟩
  rw [add_plain]
  have h2 : j = 0 ∨ j = 1 := by simp at hj; omega
  rcases h2 with rfl | rfl
  · exact (blk_cell hb 0).trans rfl
  · exact (blk_cell hb 1).trans rfl
set_option maxHeartbeats 4000000 in
set_option maxRecDepth 100000 in
theorem small23_any (w : World) (hM : MaxW w) : Calls Tryd.prog 61 #[] w fun e w' => e = .returned (.bool true) ∧ Below w.heap.size w w' := by
  have HM := Lib.hid hM
  clear hM
  obtain ⟨E1, hE1⟩ : ∃ E, mkB (encB crcF [97, 126, 125]) = E := ⟨_, rfl⟩
  obtain ⟨E2, hE2⟩ : ∃ E, mkB (encB crcF [98]) = E := ⟨_, rfl⟩
  have z1 : E1.size ≤ 2050 := by rw [← hE1, mkB_size]; exact encB_length crcF _
  have z2 : E2.size ≤ 2050 := by rw [← hE2, mkB_size]; exact encB_length crcF _
  have hS : ((⟨#[120]⟩ : ByteArray) ++ E1 ++ E2).data.toList = [120] ++ encB crcF [97, 126, 125] ++ encB crcF [98] := by
    rw [ByteArray.data_append, Array.toList_append, ByteArray.data_append, Array.toList_append, ← hE1, ← hE2]
  have hd : decL ((⟨#[120]⟩ : ByteArray) ++ E1 ++ E2) = [⟨#[97, 126, 125]⟩, ⟨#[98]⟩] := by unfold decL; rw [hS, two_back.1]; rfl
  have hr : mkB (restB ((⟨#[120]⟩ : ByteArray) ++ E1 ++ E2).data.toList) = ⟨#[126]⟩ := by rw [hS, two_back.2]; rfl
  have H1 := Lib.hid hE1; have H2 := Lib.hid hE2; have HD := Lib.hid hd; have HRR := Lib.hid hr
  clear hE1 hE2 hS hd hr
  go_enter Tryd.func61, Tryd.ntmps61
  go_wp2_with fail
  refine (Decode_any ⟨#[49, 126, 0, 0, 126, 0, 0, 126, 50]⟩ w HM.out (by decide)).mono ?_
  rw [show mkB (restB (⟨#[49, 126, 0, 0, 126, 0, 0, 126, 50]⟩ : ByteArray).data.toList) = ⟨#[126, 50]⟩ from by rw [show (⟨#[49, 126, 0, 0, 126, 0, 0, 126, 50]⟩ : ByteArray).data.toList = [49, 126, 0, 0, 126, 0, 0, 126, 50] from rfl, rest_small]]
  rw [show decL ⟨#[49, 126, 0, 0, 126, 0, 0, 126, 50]⟩ = [⟨#[]⟩, ⟨#[]⟩] from by unfold decL; rw [show (⟨#[49, 126, 0, 0, 126, 0, 0, 126, 50]⟩ : ByteArray).data.toList = [49, 126, 0, 0, 126, 0, 0, 126, 50] from rfl, pays_small]; rfl]
  rintro e w1 ⟨v1, rfl, r1, b1⟩
  obtain ⟨A1, c1, rfl, hc1, hC1⟩ := Kd.R_reads r1
  have B1 := Lib.hid b1; clear b1 r1 hC1 hc1
  go_wp2_with fail
  refine (Encode_any ⟨#[97, 126, 125]⟩ w1 (HM.out.below B1.out) (by decide)).mono ?_
  rw [show mkB (encB crcF (⟨#[97, 126, 125]⟩ : ByteArray).data.toList) = E1 from H1.out]
  rintro e w2 ⟨rfl, b2⟩
  have B2 := Lib.hid (B1.out.trans (b2.mono B1.out.size)); clear b2
  go_wp2_with fail
  refine (Encode_any ⟨#[98]⟩ w2 (HM.out.below B2.out) (by decide)).mono ?_
  rw [show mkB (encB crcF (⟨#[98]⟩ : ByteArray).data.toList) = E2 from H2.out]
  rintro e w3 ⟨rfl, b3⟩
  have B3 := Lib.hid (B2.out.trans (b3.mono B2.out.size)); clear b3
  go_wp2_with fail
  refine (Decode_any ((⟨#[120]⟩ : ByteArray) ++ E1 ++ E2) w3 (HM.out.below B3.out) (by rw [ByteArray.size_append, ByteArray.size_append]; have : (⟨#[120]⟩ : ByteArray).size = 1 := rfl; omega)).mono ?_
  rw [HD.out, HRR.out]
  rintro e w4 ⟨v4, rfl, r4, b4⟩
  obtain ⟨A4, c4, rfl, hc4, hC4⟩ := Kd.R_reads r4
  have HC4 := Lib.hid hC4; have HCC := Lib.hid hc4
  have B4 := Lib.hid (B3.out.trans (b4.mono B3.out.size)); clear b4 r4 hC4 hc4
  go_wp2_with fail
  refine (Encode_any ⟨#[]⟩ w4 (HM.out.below B4.out) (by decide)).mono ?_
  rw [show mkB (encB crcF (⟨#[]⟩ : ByteArray).data.toList) = ⟨#[126, 0, 0, 126]⟩ from by rw [show (⟨#[]⟩ : ByteArray).data.toList = [] from rfl, enc_nil]]
  rintro e w5 ⟨rfl, b5⟩
  have HC5 := Lib.hid (Kd.C_below HC4.out b5)
  have B5 := Lib.hid (B4.out.trans (b5.mono B4.out.size)); clear b5
  go_wp2_with fail
  have hw6 : Below w5.heap.size w5 (w5.alloc (Obj.cells #[Value.string ⟨#[97, 126, 125]⟩, Value.string ⟨#[98]⟩] 9)) := (Below.refl _ _).alloc (Nat.le_refl _) _
  refine (Same_any A4 c4 [⟨#[97, 126, 125]⟩, ⟨#[98]⟩] (some ⟨w5.heap.size, 0, none⟩) 2 [⟨#[97, 126, 125]⟩, ⟨#[98]⟩] _ (Kd.C_below HC5.out hw6) HCC.out (texts_two w5 _ _) (by decide)).mono ?_
  rw [decide_eq_true rfl]
  rintro e w7 ⟨rfl, b7⟩
  have B7 := Lib.hid ((B5.out.trans (hw6.mono B5.out.size)).trans (b7.mono (B5.out.trans (hw6.mono B5.out.size)).size)); clear b7 hw6
  go_wp2
  go_ret
  exact ⟨rfl, B7.out⟩
end Go.Proofs.YtdgejkiackeieaaDoor.Fr
end
section
set_option linter.unusedVariables false
set_option linter.unusedSimpArgs false
/- The walk of FrameFlags. -/
set_option linter.unusedVariables false
set_option linter.unusedSimpArgs false
namespace Go.Proofs.YtdgejkiackeieaaDoor.Fr
open Go.RowKit Go.Proofs.YtdgejkiackeieaaDoor Go.Proofs.YtdgejkiackeieaaDoor.Wr Go.Proofs.YtdgejkiackeieaaDoorW.PrintWords Go.Proofs.YtdgejkiackeieaaDoorW.PrintMore Go.Proofs.YtdgejkiackeieaaDoorW.PrintLast
theorem byte_at (F : ByteArray) (L : List UInt8) (h : F.data.toList = L) (k : Nat) (hk : k < F.size) : F[k] = L[k]'(by rw [← h, len_size]; exact hk) := by
  subst h
  show F.data[k] = _
  simp
end Go.Proofs.YtdgejkiackeieaaDoor.Fr
end
section
set_option linter.unusedVariables false
set_option linter.unusedSimpArgs false
/- The walk of FrameBack. -/
set_option linter.unusedVariables false
set_option linter.unusedSimpArgs false
namespace Go.Proofs.YtdgejkiackeieaaDoor.Fr
open Go.RowKit Go.Proofs.YtdgejkiackeieaaDoor Go.Proofs.YtdgejkiackeieaaDoor.Wr Go.Proofs.YtdgejkiackeieaaDoorW.PrintWords Go.Proofs.YtdgejkiackeieaaDoorW.PrintMore Go.Proofs.YtdgejkiackeieaaDoorW.PrintLast
theorem own_below {w w' : World} {base n : Nat} {e : TypeId} {v : Value} {xs : List Value} (h : w.ownsRow base e 1 v n xs) (hb : Below w.heap.size w w') : w'.ownsRow base e 1 v n xs :=
  own_move h (fun k hk => by obtain ⟨_, cells, hc⟩ := own_block_lt h k hk; exact hb.block k (blk_lt hc))
/-- The stream so far and what it is to give. -/
structure Bk (w0 w : World) (base : Nat) (S : ByteArray) (v : Value) (wl : List ByteArray) : Prop where
  own : w.ownsRow base 9 1 v wl.length (wl.map Value.string)
  back : Back crcF S.data.toList (lists wl)
  below : Below w0.heap.size w0 w
  base0 : w0.heap.size ≤ base
  size : base ≤ w.heap.size
theorem Bk.more {w0 w w' : World} {base : Nat} {S : ByteArray} {v : Value} {wl : List ByteArray} (h : Bk w0 w base S v wl) (hb : Below w.heap.size w w') : Bk w0 w' base S v wl :=
  ⟨own_below h.own hb, h.back, h.below.trans (hb.mono h.below.size), h.base0, Nat.le_trans h.size hb.size⟩
end Go.Proofs.YtdgejkiackeieaaDoor.Fr
end
section
set_option linter.unusedVariables false
set_option linter.unusedSimpArgs false
-- printed by a program of this session's (xprint.py) out of the translation; Lean checks it
namespace Go.Proofs.YtdgejkiackeieaaDoor.PSmall
open Go.RowKit Go.Proofs.YtdgejkiackeieaaDoorW.PrintWords Go.Proofs.YtdgejkiackeieaaDoorW.PrintLast Go.Proofs.YtdgejkiackeieaaDoorW.PrintMore
attribute [local go_sem] max2_int min2_int max_two min_two max_three min_three max_four min_four   -- for this text's walks alone
set_option linter.unusedVariables false
set_option linter.unusedSimpArgs false

-- NOT PRINTED: function 140 (abi_NoEscape)

-- NOT PRINTED: function 124 (strings_Builder_copyCheck)

-- NOT PRINTED: function 92 (strings_Builder_WriteByte)

-- NOT PRINTED: function 93 (strings_Builder_String)

-- NOT PRINTED: function 141 (bytealg_IndexByteString)

-- NOT PRINTED: function 125 (stringslite_IndexByte)

-- NOT PRINTED: function 94 (strings_IndexByte)

/-! ### bits_RotateLeft32: function 142 -/
-- NOT PRINTED: function 127 (digest_mix)

-- NOT PRINTED: function 96 (digest_compress)

/-! ### bournelaw03_small: function 25 -/
end Go.Proofs.YtdgejkiackeieaaDoor.PSmall
end
section
set_option linter.unusedVariables false
set_option linter.unusedSimpArgs false
/- The contracts of digest.Crc and of the examples' function of layer 3 in the form that the printed callers take. -/
set_option linter.unusedVariables false
namespace Go.Proofs.YtdgejkiackeieaaDoor
open Go.RowKit Go.Proofs.YtdgejkiackeieaaDoorW.PrintWords
end Go.Proofs.YtdgejkiackeieaaDoor
end
section
set_option linter.unusedVariables false
set_option linter.unusedSimpArgs false
/- The contract of digest's Short: the first eight bytes of the digest as a number, its last four bits left out. -/
set_option linter.unusedVariables false
set_option linter.unusedSimpArgs false
namespace Go.Proofs.YtdgejkiackeieaaDoor
open Go.RowKit
end Go.Proofs.YtdgejkiackeieaaDoor
end
section
set_option linter.unusedVariables false
set_option linter.unusedSimpArgs false
/- The contract of digest's Short in the form that the printed callers take. -/
set_option linter.unusedVariables false
namespace Go.Proofs.YtdgejkiackeieaaDoor
open Go.RowKit
end Go.Proofs.YtdgejkiackeieaaDoor
end
section
set_option linter.unusedVariables false
set_option linter.unusedSimpArgs false
/- The contract of the reference's rotation, for the counts that its function G uses. -/
set_option linter.unusedVariables false
set_option linter.unusedSimpArgs false
namespace Go.Proofs.YtdgejkiackeieaaDoor
open Go.RowKit Go.Proofs.YtdgejkiackeieaaDoorW.PrintWords
end Go.Proofs.YtdgejkiackeieaaDoor
end
section
set_option linter.unusedVariables false
set_option linter.unusedSimpArgs false
-- printed by a program of this session's (xprint.py) out of the translation; Lean checks it
namespace Go.Proofs.YtdgejkiackeieaaDoor.PDigestTells
open Go.RowKit Go.Proofs.YtdgejkiackeieaaDoorW.PrintWords Go.Proofs.YtdgejkiackeieaaDoorW.PrintLast Go.Proofs.YtdgejkiackeieaaDoorW.PrintMore
attribute [local go_sem] max2_int min2_int max_two min_two max_three min_three max_four min_four   -- for this text's walks alone
set_option linter.unusedVariables false
set_option linter.unusedSimpArgs false



theorem info5 : (Tryd.prog.info? 5).map (fun i => (i.zero, i.size, i.bytes)) = some (some (.int .u8 0), 1, 1) := by kernel_rfl
-- the values' own types

end Go.Proofs.YtdgejkiackeieaaDoor.PDigestTells
end
section
set_option linter.unusedVariables false
set_option linter.unusedSimpArgs false
-- printed by a program of this session's (xprint.py) out of the translation; Lean checks it
namespace Go.Proofs.YtdgejkiackeieaaDoor.PDigestTells
open Go.RowKit Go.Proofs.YtdgejkiackeieaaDoorW.PrintWords Go.Proofs.YtdgejkiackeieaaDoorW.PrintLast Go.Proofs.YtdgejkiackeieaaDoorW.PrintMore
attribute [local go_sem] max2_int min2_int max_two min_two max_three min_three max_four min_four   -- for this text's walks alone
set_option linter.unusedVariables false
set_option linter.unusedSimpArgs false

-- NOT PRINTED: function 140 (abi_NoEscape)

-- NOT PRINTED: function 124 (strings_Builder_copyCheck)

-- NOT PRINTED: function 92 (strings_Builder_WriteByte)

-- NOT PRINTED: function 93 (strings_Builder_String)

-- NOT PRINTED: function 141 (bytealg_IndexByteString)

-- NOT PRINTED: function 125 (stringslite_IndexByte)

-- NOT PRINTED: function 94 (strings_IndexByte)

-- NOT PRINTED: function 126 (digest_words)

/-! ### bits_RotateLeft32: function 142 -/
-- NOT PRINTED: function 127 (digest_mix)

-- NOT PRINTED: function 96 (digest_compress)

/-! ### bourneref03_value: function 95 -/
/-! ### bourneref03_Unhex: function 30 -/
/-! ### bourneref03_constants: function 97 -/
/-! ### bourneref03_word: function 128 -/
/-! ### bourneref03_order: function 129 -/
end Go.Proofs.YtdgejkiackeieaaDoor.PDigestTells
end
section
set_option linter.unusedVariables false
set_option linter.unusedSimpArgs false
/- The contract of the reference's function G, on a slice of sixteen words. -/
set_option linter.unusedVariables false
set_option linter.unusedSimpArgs false
namespace Go.Proofs.YtdgejkiackeieaaDoor
open Go.RowKit Go.Proofs.YtdgejkiackeieaaDoorW.PrintLast
/-- Block g begins with the numbers xs; behind them lies whatever there is room for. -/
def ArrC (w : World) (g : Nat) (xs : List Int) (tail : List Value) : Prop := w.heap[g]? = some (.cells (xs.map (Value.int .u32) ++ tail).toArray 97 (0, 0))
theorem ArrC.cell {w g xs tail} (h : ArrC w g xs tail) (i : Nat) (hi : i < xs.length) : w.cell? ⟨g, i, none⟩ = some (.int .u32 (el xs i)) := by
 rw [Lib.cell_of_heap h]; simp [hi, el, List.getElem?_append]
theorem ArrC.frozen {w g xs tail} (h : ArrC w g xs tail) (i : Nat) : w.frozen? ⟨g, i, none⟩ = false := Lib.frozen_of_heap h i
theorem ArrC.set {w g xs tail} (h : ArrC w g xs tail) (i : Nat) (x : Int) (hi : i < xs.length) : ArrC (w.setCell ⟨g, i, none⟩ (.int .u32 x)) g (xs.set i x) tail := by
 unfold ArrC at *
 have e : (xs.map (Value.int .u32) ++ tail).toArray.setIfInBounds i (.int .u32 x) = ((xs.set i x).map (Value.int .u32) ++ tail).toArray := by
  apply Array.ext'
  simp [List.map_set, List.set_append, hi]
 simp only [World.setCell, Array.getElem?_modify, h, if_true, Option.map_some, e]
 rfl
end Go.Proofs.YtdgejkiackeieaaDoor
end
section
set_option linter.unusedVariables false
set_option linter.unusedSimpArgs false
/- The contract of the reference's function G in the form that the printed compress takes (written by hand in the place of the printed one). -/
set_option linter.unusedVariables false
set_option linter.unusedSimpArgs false
namespace Go.Proofs.YtdgejkiackeieaaDoor.PDigestTells
open Go.RowKit Go.Proofs.YtdgejkiackeieaaDoorW.PrintWords Go.Proofs.YtdgejkiackeieaaDoorW.PrintLast Go.Proofs.YtdgejkiackeieaaDoorW.PrintMore
end Go.Proofs.YtdgejkiackeieaaDoor.PDigestTells
end
section
set_option linter.unusedVariables false
set_option linter.unusedSimpArgs false
/- What the reference's functions of layer 3 compute, in the words of the program's own specifications: Unhex, the words of a block, the orders. -/
set_option linter.unusedVariables false
set_option linter.unusedSimpArgs false
namespace Go.Proofs.YtdgejkiackeieaaDoor.RefA
open Go.RowKit Go.Proofs.YtdgejkiackeieaaDoor Go.Proofs.YtdgejkiackeieaaDoor.PDigestTells Go.Proofs.YtdgejkiackeieaaDoorW.PrintWords
/-! the words -/
/-! the orders -/
/-! Unhex -/
def uh (l : List UInt8) : List Int := l.map fun c => (c.toNat : Int)
end Go.Proofs.YtdgejkiackeieaaDoor.RefA
end
section
set_option linter.unusedVariables false
set_option linter.unusedSimpArgs false
-- printed by a program of this session's (xprint.py) out of the translation; Lean checks it
namespace Go.Proofs.YtdgejkiackeieaaDoor.PDigestTells
open Go.RowKit Go.Proofs.YtdgejkiackeieaaDoorW.PrintWords Go.Proofs.YtdgejkiackeieaaDoorW.PrintLast Go.Proofs.YtdgejkiackeieaaDoorW.PrintMore
attribute [local go_sem] max2_int min2_int max_two min_two max_three min_three max_four min_four   -- for this text's walks alone
set_option linter.unusedVariables false
set_option linter.unusedSimpArgs false

/-! ### bourneref03_compress: function 98 -/
end Go.Proofs.YtdgejkiackeieaaDoor.PDigestTells
end
