/- Texts of this claim, joined: ShL, Xl, PWr0, PWr1, PWr2, PWr3, WireS, WireP, PWr4, WireQ, WireR, WireT, Repl, ShR, ShA, Bld, WireX, RowX, HexT, UnhexT, ArrB, MixT, WordsT, CmpS, CmpT, SumT, Xa, Ld. -/
import Derived.Shelf.Strconv.Itoa0
import Derived.Test.YtdgejkiackeieaaDoorProg
import Derived.Test.YtdgejkiackeieaaDoorWWords
import Derived.Below
import Derived.Deep.Draws
import Derived.Deep.AppendLies
import Derived.Maps.AppendAt
import Derived.OwnWalk
import Derived.Laws.BytesArg
import Derived.Laws.MakeOwn
import Derived.Laws.OwnMore
import Derived.Deep.OwnRows
import Derived.Tactics
import Derived.Lib.ConvBytes
import Derived.Laws.Slices
import Derived.WalkKit
import Derived.KernelRfl
import Derived.RowKit3
import Derived.Deep.LoopGhost
import Derived.Deep.QuietTactic
import Derived.BigQuiet
import Derived.WideLaws
import Derived.Deep.DeepCutAuto
import Derived.Deep.CutBlock
import Derived.Deep.RegionHeld3
import Derived.Laws.Rows
import Derived.Lib.AppendStr
import Derived.ArgAppend
import Derived.Laws.IdiomCopy
import Derived.OrdersHeld
import Derived.Laws.BitsLemmas
import Derived.RowKit
import Derived.Test.YtdgejkiackeieaaDoorWLast
import Derived.Test.YtdgejkiackeieaaDoorWTab
import Derived.Test.YtdgejkiackeieaaDoorWFour
import Derived.Test.YtdgejkiackeieaaDoorWQPut
import Derived.Test.YtdgejkiackeieaaDoorWApart
import Derived.Test.YtdgejkiackeieaaDoorWArr
import Derived.Test.YtdgejkiackeieaaDoorWZeros
import Derived.Test.YtdgejkiackeieaaDoorWFoot
import Derived.Test.YtdgejkiackeieaaDoorWKept
import Derived.Test.YtdgejkiackeieaaDoorWShare
import Derived.Test.YtdgejkiackeieaaDoorWN
import Derived.Test.YtdgejkiackeieaaDoorWFootNe
import Derived.Test.YtdgejkiackeieaaDoorWAt
import Derived.Test.YtdgejkiackeieaaDoorWEqStruct
import Derived.Test.YtdgejkiackeieaaDoorWRepsOne
import Derived.Test.YtdgejkiackeieaaDoorWInv
import Derived.Test.YtdgejkiackeieaaDoorWInvWords
import Derived.Test.YtdgejkiackeieaaDoorWGuard
import Derived.Test.YtdgejkiackeieaaDoorWNEv
import Derived.Test.YtdgejkiackeieaaDoorWMore
import Derived.Lib.BitFns
import Derived.Laws.BitsAllLaws
import Derived.Lib.Strings
import Derived.Lib.SmallJoins
import Derived.Lib.Replace
import Derived.Lib.ReplaceLaws
import Derived.Lib.CountLaws
import Derived.Shelf.Strings.Replace
import Derived.Shelf.Strings.BuilderK
import Derived.Shelf.Small.Strs
import Derived.BigCall
import Derived.Outline
import Derived.Lib.Hide
import Derived.Test.YtdgejkiackeieaaDoorRows
import Derived.Test.YtdgejkiackeieaaDoorWSized
import Derived.HandedShaped
import Derived.Handed
import Derived.ProofKit
import Derived.OpenShut
import Derived.LaidMore
import Derived.Lay
import Derived.WalkSmall
import Derived.RegionTactic
import Derived.ChangeAlike
import Derived.Laws.Tables
import Derived.Laws.CopyOwn
import Derived.SevenTiedAt
import Derived.Stop.Joined
section
set_option linter.unusedVariables false
set_option linter.unusedSimpArgs false
/- The library's contract of bits.Len64 at this program's numbers. -/
set_option linter.unusedVariables false
namespace Go.Proofs
open Go.Shelf
def Tryd.lays129_ren : Go.Shelf.Ren := ⟨fun | 129 => 134 | n => n, fun | 53 => 103 | 3 => 3 | 4 => 4 | 46 => 64 | 5 => 5 | 9 => 9 | n => n, fun | n => n⟩
theorem Tryd.lays129 : Go.Proofs.Lays.n129 Tryd.prog Tryd.lays129_ren := {
  mixed := by kernel_rfl
  f129 := Tryd.func134.trans (congrArg some (by kernel_rfl))
  t3 := Tryd.underlying3
  a3 := Tryd.isAgg3
  z3 := Tryd.sizeOf3
  v3 := Tryd.zeroValue3
  t4 := Tryd.underlying4
  a4 := Tryd.isAgg4
  z4 := Tryd.sizeOf4
  v4 := Tryd.zeroValue4
  t5 := Tryd.underlying5
  a5 := Tryd.isAgg5
  z5 := Tryd.sizeOf5
  v5 := Tryd.zeroValue5
  t9 := Tryd.underlying9
  a9 := Tryd.isAgg9
  z9 := Tryd.sizeOf9
  v9 := Tryd.zeroValue9
  t46 := Tryd.underlying64
  a46 := Tryd.isAgg64
  z46 := Tryd.sizeOf64
  v46 := Tryd.zeroValue64
  t53 := Tryd.underlying103
  a53 := Tryd.isAgg103
  z53 := Tryd.sizeOf103
  v53 := Tryd.zeroValue103 }
theorem Tryd.bits_Len64 (x : Int) (w : World) (h0 : 0 ≤ x) (h1 : x ≤ 18446744073709551615) :
    Calls Tryd.prog 134 #[.int .u64 x] w fun e w' => e = .returned (.int .i64 (Lib.bitLen x.toNat)) ∧ w' = w := Any.bits_Len64 Tryd.lays129 x w h0 h1
end Go.Proofs
end
section
set_option linter.unusedVariables false
set_option linter.unusedSimpArgs false
/- The library's contract of bits.Len64 in the form that the printed callers take. -/
set_option linter.unusedVariables false
namespace Go.Proofs.YtdgejkiackeieaaDoor
open Go.RowKit Go.Proofs.YtdgejkiackeieaaDoorW.PrintWords
def bits_Len64.f (a0 : Int) : Option Int := if 0 ≤ a0 ∧ a0 ≤ 18446744073709551615 then some (Lib.bitLen a0.toNat : Int) else none
theorem bits_Len64.calls (a0 : Int) (r : Int) (w : World) (h : bits_Len64.f a0 = some r) :
    Calls Tryd.prog 134 #[.int .u64 a0] w fun e w' => e = .returned (.int .i64 r) ∧ Drawn0 w w' := by
  unfold bits_Len64.f at h
  split at h
  · rename_i hc
    cases h
    exact (Tryd.bits_Len64 a0 w hc.1 hc.2).mono fun _ _ ⟨he, hw⟩ => ⟨he, hw ▸ Drawn0.refl _⟩
  · cases h
end Go.Proofs.YtdgejkiackeieaaDoor
end
section
set_option linter.unusedVariables false
set_option linter.unusedSimpArgs false
-- printed by a program of this session's (xprint.py) out of the translation; Lean checks it
namespace Go.Proofs.YtdgejkiackeieaaDoor.PWr
open Go.RowKit Go.Proofs.YtdgejkiackeieaaDoorW.PrintWords Go.Proofs.YtdgejkiackeieaaDoorW.PrintLast Go.Proofs.YtdgejkiackeieaaDoorW.PrintMore
attribute [local go_sem] max2_int min2_int max_two min_two max_three min_three max_four min_four   -- for this text's walks alone
set_option linter.unusedVariables false
set_option linter.unusedSimpArgs false



def errW : Option Int → Value
  | none => .nilIface
  | some c => .iface 0 (.int .i64 c)
theorem errW_none : errW none = .nilIface := rfl
theorem errW_some (c : Int) : errW (some c) = .iface 0 (.int .i64 c) := rfl

theorem info5 : (Tryd.prog.info? 5).map (fun i => (i.zero, i.size, i.bytes)) = some (some (.int .u8 0), 1, 1) := by kernel_rfl
theorem info9 : (Tryd.prog.info? 9).map (fun i => (i.zero, i.size, i.bytes)) = some (some (.string ⟨#[]⟩), 1, 16) := by kernel_rfl
-- the values' own types

end Go.Proofs.YtdgejkiackeieaaDoor.PWr
end
section
set_option linter.unusedVariables false
set_option linter.unusedSimpArgs false
-- printed by a program of this session's (xprint.py) out of the translation; Lean checks it
namespace Go.Proofs.YtdgejkiackeieaaDoor.PWr
open Go.RowKit Go.Proofs.YtdgejkiackeieaaDoorW.PrintWords Go.Proofs.YtdgejkiackeieaaDoorW.PrintLast Go.Proofs.YtdgejkiackeieaaDoorW.PrintMore
attribute [local go_sem] max2_int min2_int max_two min_two max_three min_three max_four min_four   -- for this text's walks alone
set_option linter.unusedVariables false
set_option linter.unusedSimpArgs false

/-! ### wire_size: function 102 -/
def wire_size.f (a0 : Int) : Option (Int) := (bits_Len64.f a0).bind fun t101 => (some (wrap64 (Int.tdiv (wrap64 (t101 + 7)) 8)))
set_option maxHeartbeats 8000000 in
set_option maxRecDepth 100000 in
theorem wire_size.calls (a0 : Int) (r : Int) (w : World) (h : wire_size.f a0 = some r) :
    Calls Tryd.prog 102 #[.int .u64 a0] w fun e w' => e = .returned (.int .i64 r) ∧ Drawn0 w w' := by
  have H : ((bits_Len64.f a0).bind fun t101 => (some (wrap64 (Int.tdiv (wrap64 (t101 + 7)) 8)))) = some r := h
  clear h
  replace H := Option.bind_eq_some_iff.mp H
  obtain ⟨t101, A20, H⟩ := H
  replace H : (some (wrap64 (Int.tdiv (wrap64 (t101 + 7)) 8))) = some r := H
  have A2 := Aside0.mk A20
  clear A20
  obtain rfl := Option.some.inj H
  go_enter Tryd.func102, Tryd.ntmps102
  go_wp2_with (first | ((with_reducible refine gate_callee (f := 134) rfl ?_); refine goesL_ (some 4) rfl rfl Tryd.func134 (by kernel_rfl) rfl #[.int .u64 a0] rfl (by (try simp only [List.map_toArray, List.map_cons, List.map_nil]); first | done | rfl | (simp only [List.length_drop, List.length_take]; rfl)) ?_; (with_reducible refine (bits_Len64.calls a0 t101 _ A2.out).mono ?_); rintro e w' ⟨rfl, ⟨nd, rfl⟩⟩; refine ⟨_, rfl, ?_⟩))
  go_ret
  exact ⟨by first | rfl | (simp; done) | (simp [*]; done), by repeat (first | exact Drawn0.refl _ | apply Drawn0.step)⟩

/-- A state of type 117 at block g of W; what its slices lead to came in by w0. -/
def IsS117 (w0 W : World) (g : Nat) (f0 : ByteArray) (f1 : Bool) : Prop := W.heap[g]? = some (.cells #[.string f0, .bool f1] 117 (0, 0)) ∧ w0.heap.size ≤ g
theorem IsS117.grown {w0 W : World} {g : Nat} {f0 : ByteArray} {f1 : Bool} {W1 : World} {row : Option Nat} (h : IsS117 w0 W g f0 f1) (hw : W.grownBy W1 row) (hne : some g ≠ row) : IsS117 w0 W1 g f0 f1 := by
  obtain ⟨hb, hg⟩ := h
  exact ⟨blk_grown hb hw hne, hg⟩
theorem IsS117.fresh {w0 W : World} {g : Nat} {f0 : ByteArray} {f1 : Bool} (h : IsS117 w0 W g f0 f1) : ∀ k, W.heap.size ≤ k → k ≠ g := by
  obtain ⟨hb, hg⟩ := h
  exact Kd.freshB hb
theorem IsS117.kept {w0 W : World} {g : Nat} {f0 : ByteArray} {f1 : Bool} {W1 : World} {S : Nat → Prop} (h : IsS117 w0 W g f0 f1) (hk : Kept W W1 S) (hne : ¬ S g) : IsS117 w0 W1 g f0 f1 := by
  obtain ⟨hb, hg⟩ := h
  exact ⟨blk_kept hb hk hne, hg⟩
theorem IsS117.below {w0 W : World} {g : Nat} {f0 : ByteArray} {f1 : Bool} {W1 : World} (h : IsS117 w0 W g f0 f1) (hw : Below W.heap.size W W1) : IsS117 w0 W1 g f0 f1 := h.grown (grown_of_below hw none) (by simp)
theorem IsS117.alloc {w0 W : World} {g : Nat} {f0 : ByteArray} {f1 : Bool} (h : IsS117 w0 W g f0 f1) (o : Obj) : IsS117 w0 (W.alloc o) g f0 f1 := h.below (below_alloc (Below.refl _ _) o)
theorem IsS117.drewN {w0 W : World} {g : Nat} {f0 : ByteArray} {f1 : Bool} (h : IsS117 w0 W g f0 f1) (m : Nat) : IsS117 w0 (W.drewN m) g f0 f1 := h
theorem IsS117.drew {w0 W : World} {g : Nat} {f0 : ByteArray} {f1 : Bool} (h : IsS117 w0 W g f0 f1) : IsS117 w0 W.drew g f0 f1 := h
theorem IsS117.apart {w0 W : World} {g : Nat} {f0 : ByteArray} {f1 : Bool} {α : Type} {d : Kd α} {e : Nat} {base : Nat} {ok : Nat → Prop} {v : Value} {xs : List α} (h : IsS117 w0 W g f0 f1) (ho : d.R e W base ok v xs) (ht : ∀ q, q ∈ e :: d.E → q ≠ 117) : d.R e W base (fun k => ok k ∧ k ≠ g) v xs := by
  obtain ⟨hb, hg⟩ := h
  exact Kd.R_types ho hb ht
theorem IsS117.lt {w0 W : World} {g : Nat} {f0 : ByteArray} {f1 : Bool} (h : IsS117 w0 W g f0 f1) : g < W.heap.size := by
  obtain ⟨hb, hg⟩ := h
  exact blk_lt hb
theorem IsS117.ge {w0 W : World} {g : Nat} {f0 : ByteArray} {f1 : Bool} (h : IsS117 w0 W g f0 f1) : w0.heap.size ≤ g := by
  obtain ⟨hb, hg⟩ := h
  exact hg
theorem IsS117.far {w0 W : World} {g : Nat} {f0 : ByteArray} {f1 : Bool} {p : Addr} (h : IsS117 w0 W g f0 f1) (hne : g ≠ p.block) (u : Value) : IsS117 w0 (W.setCell p u) g f0 f1 := by
  obtain ⟨hb, hg⟩ := h
  exact ⟨blk_far hb hne u, hg⟩
theorem cellS117_0 {W : World} {g : Nat} {f0 : ByteArray} {f1 : Bool} (h : W.heap[g]? = some (.cells #[.string f0, .bool f1] 117 (0, 0))) : W.cell? ⟨g, 0, none⟩ = some (.string f0) := (blk_cell h 0).trans rfl
theorem IsS117.set_0 {w0 W : World} {g : Nat} {f0 : ByteArray} {f1 : Bool} (h : IsS117 w0 W g f0 f1) (x : ByteArray) : IsS117 w0 (W.setCell ⟨g, 0, none⟩ (.string x)) g x f1 := by
  obtain ⟨hb, hg⟩ := h
  exact ⟨by simpa using blk_set hb 0 (.string x), hg⟩
theorem cellS117_1 {W : World} {g : Nat} {f0 : ByteArray} {f1 : Bool} (h : W.heap[g]? = some (.cells #[.string f0, .bool f1] 117 (0, 0))) : W.cell? ⟨g, 1, none⟩ = some (.bool f1) := (blk_cell h 1).trans rfl
theorem IsS117.set_1 {w0 W : World} {g : Nat} {f0 : ByteArray} {f1 : Bool} (h : IsS117 w0 W g f0 f1) (x : Bool) : IsS117 w0 (W.setCell ⟨g, 1, none⟩ (.bool x)) g f0 x := by
  obtain ⟨hb, hg⟩ := h
  exact ⟨by simpa using blk_set hb 1 (.bool x), hg⟩
theorem IsS117.new (w0 W : World) (f0 : ByteArray) (f1 : Bool) (hB : Below w0.heap.size w0 W) : IsS117 w0 (W.alloc (.cells #[.string f0, .bool f1] 117)) W.heap.size f0 f1 := ⟨by simpa using heap_alloc_new W _, hB.size⟩

/-! ### wire_Reader_fail: function 115 -/
def wire_Reader_fail.f (s0_0 : ByteArray) (s0_1 : Bool) : Option (ByteArray × Bool) := some ((⟨#[]⟩ : ByteArray), true)
set_option maxHeartbeats 8000000 in
set_option maxRecDepth 100000 in
theorem wire_Reader_fail.calls (g : Nat) (s0_0 : ByteArray) (s0_1 : Bool) (r1 : ByteArray) (r2 : Bool) (w0 w : World) (hI : IsS117 w0 w g s0_0 s0_1) (hB : Below w0.heap.size w0 w) (h : wire_Reader_fail.f s0_0 s0_1 = some (r1, r2)) :
    Calls Tryd.prog 115 #[.pointer (some ⟨g, 0, none⟩)] w fun e w' => e = .returned (.tuple #[]) ∧ IsS117 w0 w' g r1 r2 ∧ Below w0.heap.size w0 w' ∧ KeepBut w w' g none := by
  have HI0 := Aside0.mk hI
  have HK := Aside0.mk (KeepBut.refl w g none)
  have HL := Aside0.mk hB.size
  clear hI
  have HW0 := Aside0.mk hB.size
  have HB := Aside0.mk hB
  clear hB
  have H : (some ((⟨#[]⟩ : ByteArray), true)) = some (r1, r2) := h
  clear h
  simp only [Option.some.injEq, Prod.mk.injEq] at H
  obtain ⟨rfl, rfl⟩ := H
  obtain ⟨HGz2, hgz2⟩ := HI0.out
  have hcz2_0 := cellS117_0 HGz2
  have hcz2_1 := cellS117_1 HGz2
  have hfz2_0 := blk_frozen HGz2 0
  have hfz2_1 := blk_frozen HGz2 1
  clear HGz2 hgz2
  go_enter Tryd.func115, Tryd.ntmps115
  go_wp2
  first | go_end0 | ((try simp only [Exit.inBlock, Exit.then]); refine bodyPost_ret (results_none rfl _ _ _) rfl ?_)
  exact ⟨by first | rfl | (simp [errW_none, errW_some] <;> rfl) | (simp [*, errW_none, errW_some] <;> rfl), by repeat (first | (with_reducible first | exact HI0.out | apply IsS117.alloc | apply IsS117.drewN | apply IsS117.drew | apply IsS117.set_0 | apply IsS117.set_1) | exact HI0.out), by repeat (first | (with_reducible first | exact HB.out | apply below_alloc | apply pw_below_drewN | apply below_drew1 | refine below_set ?_ (IsS117.ge HI0.out)) | exact HB.out), by repeat (first | (with_reducible first | exact HK.out | apply KeepBut.set_ | apply keep_drewN | apply keep_drew | apply keep_alloc) | exact HK.out)⟩

/-! ### wire_Reader_byte: function 117 -/
def wire_Reader_byte.f (s0_0 : ByteArray) (s0_1 : Bool) : Option (Int × Bool × ByteArray × Bool) := if s0_0.toList = ([] : List UInt8) then ((wire_Reader_fail.f s0_0 s0_1).bind fun bt102 => (some (0, false, bt102.1, bt102.2))) else (if 0 < (s0_0.size : Int) then (if 1 ≤ (s0_0.size : Int) then (some (bt s0_0 0, true, s0_0.extract 1 s0_0.size, s0_1)) else (none)) else (none))
set_option maxHeartbeats 8000000 in
set_option maxRecDepth 100000 in
theorem wire_Reader_byte.calls (g : Nat) (s0_0 : ByteArray) (s0_1 : Bool) (r1 : Int) (r2 : Bool) (r3 : ByteArray) (r4 : Bool) (w0 w : World) (hI : IsS117 w0 w g s0_0 s0_1) (hB : Below w0.heap.size w0 w) (h : wire_Reader_byte.f s0_0 s0_1 = some (r1, r2, r3, r4)) :
    Calls Tryd.prog 117 #[.pointer (some ⟨g, 0, none⟩)] w fun e w' => e = .returned (.tuple #[.int .u8 r1, .bool r2]) ∧ IsS117 w0 w' g r3 r4 ∧ Below w0.heap.size w0 w' ∧ KeepBut w w' g none := by
  have HI0 := Aside0.mk hI
  have HK := Aside0.mk (KeepBut.refl w g none)
  have HL := Aside0.mk hB.size
  clear hI
  have HW0 := Aside0.mk hB.size
  have HB := Aside0.mk hB
  clear hB
  have H : (if s0_0.toList = ([] : List UInt8) then ((wire_Reader_fail.f s0_0 s0_1).bind fun bt102 => (some (0, false, bt102.1, bt102.2))) else (if 0 < (s0_0.size : Int) then (if 1 ≤ (s0_0.size : Int) then (some (bt s0_0 0, true, s0_0.extract 1 s0_0.size, s0_1)) else (none)) else (none))) = some (r1, r2, r3, r4) := h
  clear h
  by_cases c2 : s0_0.toList = ([] : List UInt8)
  · rw [if_pos c2] at H
    have c2b0 : (s0_0.toList == ([] : List UInt8)) = true := beq_iff_eq.mpr c2
    have c2b1 : (s0_0.toList != ([] : List UInt8)) = false := bne_eq_false_iff_eq.mpr c2
    clear c2
    replace H := Option.bind_eq_some_iff.mp H
    obtain ⟨⟨t102, t103⟩, A30, H⟩ := H
    replace H : (some (0, false, t102, t103)) = some (r1, r2, r3, r4) := H
    have A3 := Aside0.mk A30
    clear A30
    simp only [Option.some.injEq, Prod.mk.injEq] at H
    obtain ⟨rfl, rfl, rfl, rfl⟩ := H
    obtain ⟨HGz4, hgz4⟩ := HI0.out
    have hcz4_0 := cellS117_0 HGz4
    have hcz4_1 := cellS117_1 HGz4
    have hfz4_0 := blk_frozen HGz4 0
    have hfz4_1 := blk_frozen HGz4 1
    clear HGz4 hgz4
    go_enter Tryd.func117, Tryd.ntmps117
    go_wp2_with (first | ((with_reducible refine gate_callee (f := 115) rfl ?_); refine goesL_ (some 11) rfl rfl Tryd.func115 (by kernel_rfl) rfl #[.pointer (some ⟨g, 0, none⟩)] rfl (by (try simp only [List.map_toArray, List.map_cons, List.map_nil]); first | done | rfl | (simp only [List.length_drop, List.length_take]; rfl)) ?_; (with_reducible refine (wire_Reader_fail.calls g s0_0 s0_1 t102 t103 w0 _ ?side1 ?side2 A3.out).mono ?_); (case side1 => repeat (first | (with_reducible first | exact HI0.out | apply IsS117.alloc | apply IsS117.drewN | apply IsS117.drew | apply IsS117.set_0 | apply IsS117.set_1) | exact HI0.out)); (case side2 => repeat (first | (with_reducible first | exact HB.out | apply below_alloc | apply pw_below_drewN | apply below_drew1 | refine below_set ?_ (IsS117.ge HI0.out)) | exact HB.out)); rintro e w5 ⟨rfl, hi, hb, hk⟩; refine ⟨_, rfl, ?_⟩; have n0_ := Aside0.mk (KeepBut.trans (by repeat (first | (with_reducible first | exact HK.out | apply KeepBut.set_ | apply keep_drewN | apply keep_drew | apply keep_alloc) | exact HK.out)) hk (.inl rfl)); have n1_ := Aside0.mk (hb); have n2_ := Aside0.mk (hi); clear HK; clear HB; clear HI0; have HK := n0_; have HB := n1_; have HI0 := n2_; clear n0_ n1_ n2_; (try clear hb); (try clear hb2); (try clear hk); (try clear hi)))
    go_ret2
    exact ⟨by first | rfl | (simp [errW_none, errW_some] <;> rfl) | (simp [*, errW_none, errW_some] <;> rfl), by repeat (first | (with_reducible first | exact HI0.out | apply IsS117.alloc | apply IsS117.drewN | apply IsS117.drew | apply IsS117.set_0 | apply IsS117.set_1) | exact HI0.out), by repeat (first | (with_reducible first | exact HB.out | apply below_alloc | apply pw_below_drewN | apply below_drew1 | refine below_set ?_ (IsS117.ge HI0.out)) | exact HB.out), by repeat (first | (with_reducible first | exact HK.out | apply KeepBut.set_ | apply keep_drewN | apply keep_drew | apply keep_alloc) | exact HK.out)⟩
  · rw [if_neg c2] at H
    have c2b0 : (s0_0.toList == ([] : List UInt8)) = false := beq_eq_false_iff_ne.mpr c2
    have c2b1 : (s0_0.toList != ([] : List UInt8)) = true := bne_iff_ne.mpr c2
    by_cases c6 : 0 < (s0_0.size : Int)
    · rw [if_pos c6] at H
      have c6b0 : decide (0 < (s0_0.size : Int)) = true := decide_eq_true c6
      have c6b1 : decide (0 < s0_0.size) = true := decide_eq_true (by omega)
      clear c6
      by_cases c8 : 1 ≤ (s0_0.size : Int)
      · rw [if_pos c8] at H
        have c8b0 := eq_true c8
        have c8b1 : decide (1 ≤ (s0_0.size : Int)) = true := decide_eq_true c8
        clear c8
        simp only [Option.some.injEq, Prod.mk.injEq] at H
        obtain ⟨rfl, rfl, rfl, rfl⟩ := H
        obtain ⟨HGz9, hgz9⟩ := HI0.out
        have hcz9_0 := cellS117_0 HGz9
        have hcz9_1 := cellS117_1 HGz9
        have hfz9_0 := blk_frozen HGz9 0
        have hfz9_1 := blk_frozen HGz9 1
        clear HGz9 hgz9
        have p7 : 0 ≤ (0 : Int) := (by omega)
        have q7 : 0 < s0_0.size := (by have : (0 : Int) < (s0_0.size : Int) := of_decide_eq_true (by first | (with_reducible assumption) | assumption); omega)
        have hx7 : ∀ h : 0 < s0_0.size, ((s0_0[0]'h).toNat : Int) = bt s0_0 0 := bt_at s0_0 0
        clear p7
        have qi7 : (0 < (s0_0.size : Int)) = True := eq_true (of_decide_eq_true (by first | (with_reducible assumption) | assumption))
        replace q7 := eq_true q7
        go_enter Tryd.func117, Tryd.ntmps117
        go_wp2
        go_ret2
        exact ⟨by first | rfl | (simp [errW_none, errW_some] <;> rfl) | (simp [*, errW_none, errW_some] <;> rfl), by repeat (first | (with_reducible first | exact HI0.out | apply IsS117.alloc | apply IsS117.drewN | apply IsS117.drew | apply IsS117.set_0 | apply IsS117.set_1) | exact HI0.out), by repeat (first | (with_reducible first | exact HB.out | apply below_alloc | apply pw_below_drewN | apply below_drew1 | refine below_set ?_ (IsS117.ge HI0.out)) | exact HB.out), by repeat (first | (with_reducible first | exact HK.out | apply KeepBut.set_ | apply keep_drewN | apply keep_drew | apply keep_alloc) | exact HK.out)⟩
      · rw [if_neg c8] at H
        exact absurd H (by simp)
    · rw [if_neg c6] at H
      exact absurd H (by simp)

/-! ### wire_Reader_Int: function 72 -/
mutual
def wire_Reader_Int.j0 : Nat → Int → Int → ByteArray → Bool → Option (Int × ByteArray × Bool)
  | 0, _, _, _, _ => none
  | k + 1, x5, x6, x1000, x1001 => if x5 > 8 then (wire_Reader_Int.j1 k x5 x6 true x1000 x1001) else (wire_Reader_Int.j1 k x5 x6 (decide (x5 > (x1000.size : Int))) x1000 x1001)
def wire_Reader_Int.j1 : Nat → Int → Int → Bool → ByteArray → Bool → Option (Int × ByteArray × Bool)
  | 0, _, _, _, _, _ => none
  | k + 1, x5, x6, x33, x1000, x1001 => if x33 = true then ((wire_Reader_fail.f x1000 x1001).bind fun bt108 => (some (0, bt108.1, bt108.2))) else (wire_Reader_Int.l0 k x5 x6 0 x5 0 x1000 x1001)
def wire_Reader_Int.l0 : Nat → Int → Int → Int → Int → Int → ByteArray → Bool → Option (Int × ByteArray × Bool)
  | 0, _, _, _, _, _, _, _ => none
  | k + 1, x5, x6, x7, x36, x37, x1000, x1001 => if x37 < x36 then (if 0 ≤ x37 then (if x37 < (x1000.size : Int) then (wire_Reader_Int.l0 k x5 x6 (Go.bits .or .u64 (IntKind.u64.wrap (x7 * 256)) (IntKind.u64.wrap (Go.bits .xor .u8 (bt x1000 x37) x6))) x36 (wrap64 (x37 + 1)) x1000 x1001) else (none)) else (none)) else ((wire_size.f x7).bind fun t110 => (if t110 = x5 then (wire_Reader_Int.j3 k x5 x6 x7 ((x7 / 9223372036854775808) != 0) x1000 x1001) else (wire_Reader_Int.j3 k x5 x6 x7 true x1000 x1001)))
def wire_Reader_Int.j3 : Nat → Int → Int → Int → Bool → ByteArray → Bool → Option (Int × ByteArray × Bool)
  | 0, _, _, _, _, _, _ => none
  | k + 1, x5, x6, x7, x61, x1000, x1001 => if x61 = true then ((wire_Reader_fail.f x1000 x1001).bind fun bt111 => (some (0, bt111.1, bt111.2))) else (if 0 ≤ x5 then (if x5 ≤ (x1000.size : Int) then (if x6 = 0 then (some (wrap64 (x7), x1000.extract (x5 : Int).toNat x1000.size, x1001)) else (some (wrap64 (Go.bits .xor .u64 IntKind.u64.max x7), x1000.extract (x5 : Int).toNat x1000.size, x1001))) else (none)) else (none))
end
def wire_Reader_Int.f (k : Nat) (s0_0 : ByteArray) (s0_1 : Bool) : Option (Int × ByteArray × Bool) := (wire_Reader_byte.f s0_0 s0_1).bind fun bt104 => (if bt104.2.1 = true then (if (wrap64 ((wrap64 (bt104.1)) - 128)) < 0 then (wire_Reader_Int.j0 k (wrap64 ((-1) - (wrap64 ((wrap64 (bt104.1)) - 128)))) 255 bt104.2.2.1 bt104.2.2.2) else (wire_Reader_Int.j0 k (wrap64 ((wrap64 (bt104.1)) - 128)) 0 bt104.2.2.1 bt104.2.2.2)) else (some (0, bt104.2.2.1, bt104.2.2.2)))
theorem wire_Reader_Int.mono_l : ∀ k, (∀ y0 y1 y2 y3, LeO (wire_Reader_Int.j0 k y0 y1 y2 y3) (wire_Reader_Int.j0 (k + 1) y0 y1 y2 y3)) ∧ (∀ y0 y1 y2 y3 y4, LeO (wire_Reader_Int.j1 k y0 y1 y2 y3 y4) (wire_Reader_Int.j1 (k + 1) y0 y1 y2 y3 y4)) ∧ (∀ y0 y1 y2 y3 y4 y5 y6, LeO (wire_Reader_Int.l0 k y0 y1 y2 y3 y4 y5 y6) (wire_Reader_Int.l0 (k + 1) y0 y1 y2 y3 y4 y5 y6)) ∧ (∀ y0 y1 y2 y3 y4 y5, LeO (wire_Reader_Int.j3 k y0 y1 y2 y3 y4 y5) (wire_Reader_Int.j3 (k + 1) y0 y1 y2 y3 y4 y5))
  | 0 => ⟨fun _ _ _ _ r h => by simp [wire_Reader_Int.j0] at h, fun _ _ _ _ _ r h => by simp [wire_Reader_Int.j1] at h, fun _ _ _ _ _ _ _ r h => by simp [wire_Reader_Int.l0] at h, fun _ _ _ _ _ _ r h => by simp [wire_Reader_Int.j3] at h⟩
  | k + 1 => by
    obtain ⟨ih0, ih1, ih2, ih3⟩ := wire_Reader_Int.mono_l k
    refine ⟨?_, ?_, ?_, ?_⟩
    · intro y0 y1 y2 y3
      unfold wire_Reader_Int.j0
      repeat' first
      | (with_reducible exact ih0 _ _ _ _)
      | (with_reducible exact ih1 _ _ _ _ _)
      | (with_reducible exact ih2 _ _ _ _ _ _ _)
      | (with_reducible exact ih3 _ _ _ _ _ _)
      | (with_reducible exact LeO.refl _)
      | (with_reducible exact LeO.none _)
      | (with_reducible refine LeO.ite ?_ ?_)
      | (with_reducible refine LeO.bind ?_ (fun _ => ?_))
      | exact ih0 _ _ _ _
      | exact ih1 _ _ _ _ _
      | exact ih2 _ _ _ _ _ _ _
      | exact ih3 _ _ _ _ _ _
      | exact LeO.none _
      | refine LeO.ite ?_ ?_
      | refine LeO.bind ?_ (fun _ => ?_)
    · intro y0 y1 y2 y3 y4
      unfold wire_Reader_Int.j1
      repeat' first
      | (with_reducible exact ih0 _ _ _ _)
      | (with_reducible exact ih1 _ _ _ _ _)
      | (with_reducible exact ih2 _ _ _ _ _ _ _)
      | (with_reducible exact ih3 _ _ _ _ _ _)
      | (with_reducible exact LeO.refl _)
      | (with_reducible exact LeO.none _)
      | (with_reducible refine LeO.ite ?_ ?_)
      | (with_reducible refine LeO.bind ?_ (fun _ => ?_))
      | exact ih0 _ _ _ _
      | exact ih1 _ _ _ _ _
      | exact ih2 _ _ _ _ _ _ _
      | exact ih3 _ _ _ _ _ _
      | exact LeO.none _
      | refine LeO.ite ?_ ?_
      | refine LeO.bind ?_ (fun _ => ?_)
    · intro y0 y1 y2 y3 y4 y5 y6
      unfold wire_Reader_Int.l0
      repeat' first
      | (with_reducible exact ih0 _ _ _ _)
      | (with_reducible exact ih1 _ _ _ _ _)
      | (with_reducible exact ih2 _ _ _ _ _ _ _)
      | (with_reducible exact ih3 _ _ _ _ _ _)
      | (with_reducible exact LeO.refl _)
      | (with_reducible exact LeO.none _)
      | (with_reducible refine LeO.ite ?_ ?_)
      | (with_reducible refine LeO.bind ?_ (fun _ => ?_))
      | exact ih0 _ _ _ _
      | exact ih1 _ _ _ _ _
      | exact ih2 _ _ _ _ _ _ _
      | exact ih3 _ _ _ _ _ _
      | exact LeO.none _
      | refine LeO.ite ?_ ?_
      | refine LeO.bind ?_ (fun _ => ?_)
    · intro y0 y1 y2 y3 y4 y5
      unfold wire_Reader_Int.j3
      repeat' first
      | (with_reducible exact ih0 _ _ _ _)
      | (with_reducible exact ih1 _ _ _ _ _)
      | (with_reducible exact ih2 _ _ _ _ _ _ _)
      | (with_reducible exact ih3 _ _ _ _ _ _)
      | (with_reducible exact LeO.refl _)
      | (with_reducible exact LeO.none _)
      | (with_reducible refine LeO.ite ?_ ?_)
      | (with_reducible refine LeO.bind ?_ (fun _ => ?_))
      | exact ih0 _ _ _ _
      | exact ih1 _ _ _ _ _
      | exact ih2 _ _ _ _ _ _ _
      | exact ih3 _ _ _ _ _ _
      | exact LeO.none _
      | refine LeO.ite ?_ ?_
      | refine LeO.bind ?_ (fun _ => ?_)
theorem wire_Reader_Int.mono : ∀ a0 a1 k, LeO (wire_Reader_Int.f k a0 a1) (wire_Reader_Int.f (k + 1) a0 a1) := by
  intro a0 a1 k
  obtain ⟨ih0, ih1, ih2, ih3⟩ := wire_Reader_Int.mono_l k
  unfold wire_Reader_Int.f
  repeat' first
      | (with_reducible exact ih0 _ _ _ _)
      | (with_reducible exact ih1 _ _ _ _ _)
      | (with_reducible exact ih2 _ _ _ _ _ _ _)
      | (with_reducible exact ih3 _ _ _ _ _ _)
      | (with_reducible exact LeO.refl _)
      | (with_reducible exact LeO.none _)
      | (with_reducible refine LeO.ite ?_ ?_)
      | (with_reducible refine LeO.bind ?_ (fun _ => ?_))
      | exact ih0 _ _ _ _
      | exact ih1 _ _ _ _ _
      | exact ih2 _ _ _ _ _ _ _
      | exact ih3 _ _ _ _ _ _
      | exact LeO.none _
      | refine LeO.ite ?_ ?_
      | refine LeO.bind ?_ (fun _ => ?_)
set_option maxHeartbeats 8000000 in
set_option maxRecDepth 100000 in
theorem wire_Reader_Int.calls (k : Nat) (g : Nat) (s0_0 : ByteArray) (s0_1 : Bool) (r1 : Int) (r2 : ByteArray) (r3 : Bool) (w0 w : World) (hI : IsS117 w0 w g s0_0 s0_1) (hB : Below w0.heap.size w0 w) (h : wire_Reader_Int.f k s0_0 s0_1 = some (r1, r2, r3)) :
    Calls Tryd.prog 72 #[.pointer (some ⟨g, 0, none⟩)] w fun e w' => e = .returned (.int .i64 r1) ∧ IsS117 w0 w' g r2 r3 ∧ Below w0.heap.size w0 w' ∧ KeepBut w w' g none := by
  have HI0 := Aside0.mk hI
  have HK := Aside0.mk (KeepBut.refl w g none)
  have HL := Aside0.mk hB.size
  clear hI
  have HW0 := Aside0.mk hB.size
  have HB := Aside0.mk hB
  clear hB
  have H : ((wire_Reader_byte.f s0_0 s0_1).bind fun bt104 => (if bt104.2.1 = true then (if (wrap64 ((wrap64 (bt104.1)) - 128)) < 0 then (wire_Reader_Int.j0 k (wrap64 ((-1) - (wrap64 ((wrap64 (bt104.1)) - 128)))) 255 bt104.2.2.1 bt104.2.2.2) else (wire_Reader_Int.j0 k (wrap64 ((wrap64 (bt104.1)) - 128)) 0 bt104.2.2.1 bt104.2.2.2)) else (some (0, bt104.2.2.1, bt104.2.2.2)))) = some (r1, r2, r3) := h
  clear h
  replace H := Option.bind_eq_some_iff.mp H
  obtain ⟨⟨t104, t105, t106, t107⟩, A20, H⟩ := H
  replace H : (if t105 = true then (if (wrap64 ((wrap64 (t104)) - 128)) < 0 then (wire_Reader_Int.j0 k (wrap64 ((-1) - (wrap64 ((wrap64 (t104)) - 128)))) 255 t106 t107) else (wire_Reader_Int.j0 k (wrap64 ((wrap64 (t104)) - 128)) 0 t106 t107)) else (some (0, t106, t107))) = some (r1, r2, r3) := H
  have A2 := Aside0.mk A20
  clear A20
  by_cases c3 : t105 = true
  · subst c3
    have H1 : (if (wrap64 ((wrap64 (t104)) - 128)) < 0 then (wire_Reader_Int.j0 k (wrap64 ((-1) - (wrap64 ((wrap64 (t104)) - 128)))) 255 t106 t107) else (wire_Reader_Int.j0 k (wrap64 ((wrap64 (t104)) - 128)) 0 t106 t107)) = some (r1, r2, r3) := by rw [if_pos rfl] at H; exact H
    clear H
    have H := H1
    clear H1
    have HC4 := Aside0.mk H
    clear H
    go_enter Tryd.func72, Tryd.ntmps72
    go_upto_if 20 with (first | ((with_reducible refine gate_callee (f := 117) rfl ?_); refine goesL_ (some 11) rfl rfl Tryd.func117 (by kernel_rfl) rfl #[.pointer (some ⟨g, 0, none⟩)] rfl (by (try simp only [List.map_toArray, List.map_cons, List.map_nil]); first | done | rfl | (simp only [List.length_drop, List.length_take]; rfl)) ?_; (with_reducible refine (wire_Reader_byte.calls g s0_0 s0_1 t104 true t106 t107 w0 _ ?side1 ?side2 A2.out).mono ?_); (case side1 => repeat (first | (with_reducible first | exact HI0.out | apply IsS117.alloc | apply IsS117.drewN | apply IsS117.drew | apply IsS117.set_0 | apply IsS117.set_1) | exact HI0.out)); (case side2 => repeat (first | (with_reducible first | exact HB.out | apply below_alloc | apply pw_below_drewN | apply below_drew1 | refine below_set ?_ (IsS117.ge HI0.out)) | exact HB.out)); rintro e w5 ⟨rfl, hi, hb, hk⟩; refine ⟨_, rfl, ?_⟩; have n0_ := Aside0.mk (KeepBut.trans (by repeat (first | (with_reducible first | exact HK.out | apply KeepBut.set_ | apply keep_drewN | apply keep_drew | apply keep_alloc) | exact HK.out)) hk (.inl rfl)); have n1_ := Aside0.mk (hb); have n2_ := Aside0.mk (hi); clear HK; clear HB; clear HI0; have HK := n0_; have HB := n1_; have HI0 := n2_; clear n0_ n1_ n2_; (try clear hb); (try clear hb2); (try clear hk); (try clear hi)))
    (try simp only [Act.put, List.setIfInBounds_toArray, List.set_cons_zero, List.set_cons_succ])
    go_cut [5, 6] (fun v5 v6 wc => ∃ (kq : Nat) (x5_3 : Int) (x6_3 : Int), v5 = .int .i64 x5_3 ∧ v6 = .int .u8 x6_3 ∧ Aside0 (wire_Reader_Int.j0 kq x5_3 x6_3 t106 t107 = some (r1, r2, r3)) ∧ Aside0 (kq ≤ k) ∧ Aside0 (IsS117 w0 wc g t106 t107) ∧ Aside0 (KeepBut w wc g none) ∧ Aside0 (Below w0.heap.size w0 wc))
    case first =>
      have H := HC4.out
      clear HC4
      by_cases c6 : (wrap64 ((wrap64 (t104)) - 128)) < 0
      · rw [if_pos c6] at H
        have c6b0 : decide ((wrap64 ((wrap64 (t104)) - 128)) < 0) = true := decide_eq_true c6
        clear c6
        (first | rw [c6b0] | (simp only [i64_w, i32_w]; rw [c6b0]) | skip)
        have H' := Aside0.mk H
        clear H
        go_wp2
        go_meet
        case rel => exact ⟨_, (wrap64 ((-1) - (wrap64 ((wrap64 (t104)) - 128)))), (255), (by first | rfl | (simp; done) | (simp [*]; done)), (by first | rfl | (simp; done) | (simp [*]; done)), H', ⟨by first | omega | exact Nat.le_refl _⟩, ⟨by repeat (first | (with_reducible first | exact HI0.out | apply IsS117.alloc | apply IsS117.drewN | apply IsS117.drew | apply IsS117.set_0 | apply IsS117.set_1) | exact HI0.out)⟩, ⟨by repeat (first | (with_reducible first | exact HK.out | apply KeepBut.set_ | apply keep_drewN | apply keep_drew | apply keep_alloc) | exact HK.out)⟩, ⟨by repeat (first | (with_reducible first | exact HB.out | apply below_alloc | apply pw_below_drewN | apply below_drew1 | refine below_set ?_ (IsS117.ge HI0.out)) | exact HB.out)⟩⟩
      · rw [if_neg c6] at H
        have c6b0 : decide ((wrap64 ((wrap64 (t104)) - 128)) < 0) = false := decide_eq_false c6
        clear c6
        (first | rw [c6b0] | (simp only [i64_w, i32_w]; rw [c6b0]) | skip)
        have H' := Aside0.mk H
        clear H
        go_wp2
        go_meet
        case rel => exact ⟨_, (wrap64 ((wrap64 (t104)) - 128)), (0), (by first | rfl | (simp; done) | (simp [*]; done)), (by first | rfl | (simp; done) | (simp [*]; done)), H', ⟨by first | omega | exact Nat.le_refl _⟩, ⟨by repeat (first | (with_reducible first | exact HI0.out | apply IsS117.alloc | apply IsS117.drewN | apply IsS117.drew | apply IsS117.set_0 | apply IsS117.set_1) | exact HI0.out)⟩, ⟨by repeat (first | (with_reducible first | exact HK.out | apply KeepBut.set_ | apply keep_drewN | apply keep_drew | apply keep_alloc) | exact HK.out)⟩, ⟨by repeat (first | (with_reducible first | exact HB.out | apply below_alloc | apply pw_below_drewN | apply below_drew1 | refine below_set ?_ (IsS117.ge HI0.out)) | exact HB.out)⟩⟩
    case rest =>
      clear HC4
      try clear c1
      try clear p2
      try clear c3
      try clear c6
      try clear c6b0
      try clear p6
      obtain ⟨kq, x5_3, x6_3, rfl, rfl, HA, HJ3, HI0, HK, HB⟩ := hcut
      cases kq with
      | zero => exact absurd HA.out (by simp [wire_Reader_Int.j0])
      | succ kj3 =>
        have H := HA.out
        clear HA
        simp only [wire_Reader_Int.j0] at H
        have HC7 := Aside0.mk H
        clear H
        go_upto_region 7 with (fail)
        go_cut [33] (fun v33 wc => ∃ (kq : Nat) (x33_6 : Bool), v33 = .bool x33_6 ∧ Aside0 (wire_Reader_Int.j1 kq x5_3 x6_3 x33_6 t106 t107 = some (r1, r2, r3)) ∧ Aside0 (kq ≤ kj3) ∧ Aside0 (IsS117 w0 wc g t106 t107) ∧ Aside0 (KeepBut w wc g none) ∧ Aside0 (Below w0.heap.size w0 wc))
        case first =>
          have H := HC7.out
          clear HC7
          by_cases c8 : x5_3 > 8
          · rw [if_pos c8] at H
            have c8b0 : decide (8 < x5_3) = true := decide_eq_true c8
            clear c8
            (first | rw [c8b0] | (simp only [i64_w, i32_w]; rw [c8b0]) | skip)
            have H' := Aside0.mk H
            clear H
            go_wp2
            go_meet
            case rel => exact ⟨_, (true), (by first | rfl | (simp; done) | (simp [*]; done)), H', ⟨by have := HJ3.out; first | omega | exact Nat.le_refl _⟩, ⟨by repeat (first | (with_reducible first | exact HI0.out | apply IsS117.alloc | apply IsS117.drewN | apply IsS117.drew | apply IsS117.set_0 | apply IsS117.set_1) | exact HI0.out)⟩, ⟨by repeat (first | (with_reducible first | exact HK.out | apply KeepBut.set_ | apply keep_drewN | apply keep_drew | apply keep_alloc) | exact HK.out)⟩, ⟨by repeat (first | (with_reducible first | exact HB.out | apply below_alloc | apply pw_below_drewN | apply below_drew1 | refine below_set ?_ (IsS117.ge HI0.out)) | exact HB.out)⟩⟩
          · rw [if_neg c8] at H
            have c8b0 : decide (8 < x5_3) = false := decide_eq_false c8
            clear c8
            (first | rw [c8b0] | (simp only [i64_w, i32_w]; rw [c8b0]) | skip)
            have H' := Aside0.mk H
            clear H
            obtain ⟨HGz9, hgz9⟩ := HI0.out
            have hcz9_0 := cellS117_0 HGz9
            have hcz9_1 := cellS117_1 HGz9
            have hfz9_0 := blk_frozen HGz9 0
            have hfz9_1 := blk_frozen HGz9 1
            clear HGz9 hgz9
            go_wp2
            go_meet
            case rel => exact ⟨_, (decide (x5_3 > (t106.size : Int))), (by first | rfl | (simp; done) | (simp [*]; done)), H', ⟨by have := HJ3.out; first | omega | exact Nat.le_refl _⟩, ⟨by repeat (first | (with_reducible first | exact HI0.out | apply IsS117.alloc | apply IsS117.drewN | apply IsS117.drew | apply IsS117.set_0 | apply IsS117.set_1) | exact HI0.out)⟩, ⟨by repeat (first | (with_reducible first | exact HK.out | apply KeepBut.set_ | apply keep_drewN | apply keep_drew | apply keep_alloc) | exact HK.out)⟩, ⟨by repeat (first | (with_reducible first | exact HB.out | apply below_alloc | apply pw_below_drewN | apply below_drew1 | refine below_set ?_ (IsS117.ge HI0.out)) | exact HB.out)⟩⟩
        case rest =>
          clear HC7
          try clear c1
          try clear p2
          try clear c3
          try clear c6
          try clear c6b0
          try clear p6
          try clear c7
          try clear c8
          try clear c8b0
          try clear hcz9_0
          try clear hcz9_1
          try clear hfz9_0
          try clear hfz9_1
          try clear p2
          try clear p6
          obtain ⟨kq, x33_6, rfl, HA, HJ6, HI0, HK, HB⟩ := hcut
          cases kq with
          | zero => exact absurd HA.out (by simp [wire_Reader_Int.j1])
          | succ kj6 =>
            have H := HA.out
            clear HA
            simp only [wire_Reader_Int.j1] at H
            by_cases c10 : x33_6 = true
            · subst c10
              have H1 : ((wire_Reader_fail.f t106 t107).bind fun bt108 => (some (0, bt108.1, bt108.2))) = some (r1, r2, r3) := by rw [if_pos rfl] at H; exact H
              clear H
              have H := H1
              clear H1
              replace H := Option.bind_eq_some_iff.mp H
              obtain ⟨⟨t108, t109⟩, A110, H⟩ := H
              replace H : (some (0, t108, t109)) = some (r1, r2, r3) := H
              have A11 := Aside0.mk A110
              clear A110
              simp only [Option.some.injEq, Prod.mk.injEq] at H
              obtain ⟨rfl, rfl, rfl⟩ := H
              go_wp2_with (first | ((with_reducible refine gate_callee (f := 115) rfl ?_); refine goesL_ (some 35) rfl rfl Tryd.func115 (by kernel_rfl) rfl #[.pointer (some ⟨g, 0, none⟩)] rfl (by (try simp only [List.map_toArray, List.map_cons, List.map_nil]); first | done | rfl | (simp only [List.length_drop, List.length_take]; rfl)) ?_; (with_reducible refine (wire_Reader_fail.calls g t106 t107 t108 t109 w0 _ ?side1 ?side2 A11.out).mono ?_); (case side1 => repeat (first | (with_reducible first | exact HI0.out | apply IsS117.alloc | apply IsS117.drewN | apply IsS117.drew | apply IsS117.set_0 | apply IsS117.set_1) | exact HI0.out)); (case side2 => repeat (first | (with_reducible first | exact HB.out | apply below_alloc | apply pw_below_drewN | apply below_drew1 | refine below_set ?_ (IsS117.ge HI0.out)) | exact HB.out)); rintro e w12 ⟨rfl, hi, hb, hk⟩; refine ⟨_, rfl, ?_⟩; have n0_ := Aside0.mk (KeepBut.trans (by repeat (first | (with_reducible first | exact HK.out | apply KeepBut.set_ | apply keep_drewN | apply keep_drew | apply keep_alloc) | exact HK.out)) hk (.inl rfl)); have n1_ := Aside0.mk (hb); have n2_ := Aside0.mk (hi); clear HK; clear HB; clear HI0; have HK := n0_; have HB := n1_; have HI0 := n2_; clear n0_ n1_ n2_; (try clear hb); (try clear hb2); (try clear hk); (try clear hi)))
              go_ret
              exact ⟨by first | rfl | (simp [errW_none, errW_some] <;> rfl) | (simp [*, errW_none, errW_some] <;> rfl), by repeat (first | (with_reducible first | exact HI0.out | apply IsS117.alloc | apply IsS117.drewN | apply IsS117.drew | apply IsS117.set_0 | apply IsS117.set_1) | exact HI0.out), by repeat (first | (with_reducible first | exact HB.out | apply below_alloc | apply pw_below_drewN | apply below_drew1 | refine below_set ?_ (IsS117.ge HI0.out)) | exact HB.out), by repeat (first | (with_reducible first | exact HK.out | apply KeepBut.set_ | apply keep_drewN | apply keep_drew | apply keep_alloc) | exact HK.out)⟩
            · replace c10 := Bool.eq_false_iff.mpr c10
              subst c10
              have H1 : (wire_Reader_Int.l0 kj6 x5_3 x6_3 0 x5_3 0 t106 t107) = some (r1, r2, r3) := by rw [if_neg (show ¬ (false = true) by decide)] at H; exact H
              clear H
              have H := H1
              clear H1
              have H' := Aside0.mk H
              clear H
              go_wp2
              go_loopg [7, 37] kj6 (fun kq v7 v37 w' => ∃ (x7_3 : Int) (x37_3 : Int), v7 = .int .u64 x7_3 ∧ v37 = .int .i64 x37_3 ∧ Aside0 (wire_Reader_Int.l0 kq x5_3 x6_3 x7_3 x5_3 x37_3 t106 t107 = some (r1, r2, r3)) ∧ Aside0 (kq ≤ kj6) ∧ Aside0 (IsS117 w0 w' g t106 t107) ∧ Aside0 (KeepBut w w' g none) ∧ Aside0 (Below w0.heap.size w0 w'))
              case atStart => exact ⟨(0), (0), (by first | rfl | (simp; done) | (simp [*]; done)), (by first | rfl | (simp; done) | (simp [*]; done)), H', ⟨Nat.le_refl _⟩, ⟨by repeat (first | (with_reducible first | exact HI0.out | apply IsS117.alloc | apply IsS117.drewN | apply IsS117.drew | apply IsS117.set_0 | apply IsS117.set_1) | exact HI0.out)⟩, ⟨by repeat (first | (with_reducible first | exact HK.out | apply KeepBut.set_ | apply keep_drewN | apply keep_drew | apply keep_alloc) | exact HK.out)⟩, ⟨by repeat (first | (with_reducible first | exact HB.out | apply below_alloc | apply pw_below_drewN | apply below_drew1 | refine below_set ?_ (IsS117.ge HI0.out)) | exact HB.out)⟩⟩
              case round =>
                clear H'
                try clear c1
                try clear p2
                try clear c3
                try clear c6
                try clear c6b0
                try clear p6
                try clear c7
                try clear c8
                try clear c8b0
                try clear c10
                try clear c11
                try clear hcz9_0
                try clear hcz9_1
                try clear hfz9_0
                try clear hfz9_1
                try clear p2
                try clear p6
                obtain ⟨x7_3, x37_3, rfl, rfl, HA, HK3, HI0, HK, HB⟩ := hrel
                cases gk with
                | zero => exact absurd HA.out (by simp [wire_Reader_Int.l0])
                | succ k3 =>
                  have H := HA.out
                  clear HA
                  simp only [wire_Reader_Int.l0] at H
                  by_cases c13 : x37_3 < x5_3
                  · rw [if_pos c13] at H
                    have c13b0 : decide (x37_3 < x5_3) = true := decide_eq_true c13
                    clear c13
                    by_cases c14 : 0 ≤ x37_3
                    · rw [if_pos c14] at H
                      have c14b0 : decide (0 ≤ x37_3) = true := decide_eq_true c14
                      clear c14
                      by_cases c15 : x37_3 < (t106.size : Int)
                      · rw [if_pos c15] at H
                        have c15b0 : decide (x37_3 < (t106.size : Int)) = true := decide_eq_true c15
                        clear c15
                        have H' := Aside0.mk H
                        clear H
                        obtain ⟨HGz17, hgz17⟩ := HI0.out
                        have hcz17_0 := cellS117_0 HGz17
                        have hcz17_1 := cellS117_1 HGz17
                        have hfz17_0 := blk_frozen HGz17 0
                        have hfz17_1 := blk_frozen HGz17 1
                        clear HGz17 hgz17
                        have p16 : 0 ≤ (x37_3 : Int) := of_decide_eq_true (by first | (with_reducible assumption) | assumption)
                        have q16 : x37_3 < (t106.size : Int) := of_decide_eq_true (by first | (with_reducible assumption) | assumption)
                        have hx16 := bt_at t106 x37_3
                        replace p16 := eq_true p16
                        replace q16 := eq_true q16
                        go_wp2
                        go_roundg k3
                        case measure => have := HJ3.out; have := HJ6.out; have := HK3.out; omega
                        case rel => exact ⟨(Go.bits .or .u64 (IntKind.u64.wrap (x7_3 * 256)) (IntKind.u64.wrap (Go.bits .xor .u8 (bt t106 x37_3) x6_3))), (wrap64 (x37_3 + 1)), (by first | rfl | (simp; done) | (simp [*]; done)), (by first | rfl | (simp; done) | (simp [*]; done)), H', ⟨by have := HJ3.out; have := HJ6.out; have := HK3.out; omega⟩, ⟨by repeat (first | (with_reducible first | exact HI0.out | apply IsS117.alloc | apply IsS117.drewN | apply IsS117.drew | apply IsS117.set_0 | apply IsS117.set_1) | exact HI0.out)⟩, ⟨by repeat (first | (with_reducible first | exact HK.out | apply KeepBut.set_ | apply keep_drewN | apply keep_drew | apply keep_alloc) | exact HK.out)⟩, ⟨by repeat (first | (with_reducible first | exact HB.out | apply below_alloc | apply pw_below_drewN | apply below_drew1 | refine below_set ?_ (IsS117.ge HI0.out)) | exact HB.out)⟩⟩
                      · rw [if_neg c15] at H
                        exact absurd H (by simp)
                    · rw [if_neg c14] at H
                      exact absurd H (by simp)
                  · rw [if_neg c13] at H
                    have c13b0 : decide (x37_3 < x5_3) = false := decide_eq_false c13
                    clear c13
                    have HC18 := Aside0.mk H
                    clear H
                    go_upto_region 16 with (fail)
                    go_cut [61] (fun v61 wc => ∃ (kq : Nat) (x61_17 : Bool), v61 = .bool x61_17 ∧ Aside0 (wire_Reader_Int.j3 kq x5_3 x6_3 x7_3 x61_17 t106 t107 = some (r1, r2, r3)) ∧ Aside0 (kq ≤ k3) ∧ Aside0 (IsS117 w0 wc g t106 t107) ∧ Aside0 (KeepBut w wc g none) ∧ Aside0 (Below w0.heap.size w0 wc))
                    case first =>
                      have H := HC18.out
                      clear HC18
                      replace H := Option.bind_eq_some_iff.mp H
                      obtain ⟨t110, A190, H⟩ := H
                      replace H : (if t110 = x5_3 then (wire_Reader_Int.j3 k3 x5_3 x6_3 x7_3 ((x7_3 / 9223372036854775808) != 0) t106 t107) else (wire_Reader_Int.j3 k3 x5_3 x6_3 x7_3 true t106 t107)) = some (r1, r2, r3) := H
                      have A19 := Aside0.mk A190
                      clear A190
                      by_cases c20 : t110 = x5_3
                      · rw [if_pos c20] at H
                        have c20b0 : (t110 == x5_3) = true := beq_iff_eq.mpr c20
                        have c20b1 : (t110 != x5_3) = false := bne_eq_false_iff_eq.mpr c20
                        clear c20
                        (first | rw [c20b0] | (simp only [i64_w, i32_w]; rw [c20b0]) | skip)
                        have H' := Aside0.mk H
                        clear H
                        go_wp2_with (first | ((with_reducible refine gate_callee (f := 102) rfl ?_); refine goesL_ (some 54) rfl rfl Tryd.func102 (by kernel_rfl) rfl #[.int .u64 x7_3] rfl (by (try simp only [List.map_toArray, List.map_cons, List.map_nil]); first | done | rfl | (simp only [List.length_drop, List.length_take]; rfl)) ?_; (with_reducible refine (wire_size.calls x7_3 t110 _ A19.out).mono ?_); rintro e w' ⟨rfl, ⟨nd, rfl⟩⟩; refine ⟨_, rfl, ?_⟩))
                        go_meet
                        case rel => exact ⟨_, (((x7_3 / 9223372036854775808) != 0)), (by first | rfl | (simp; done) | (simp [*]; done)), H', ⟨by have := HJ3.out; have := HJ6.out; have := HK3.out; first | omega | exact Nat.le_refl _⟩, ⟨by repeat (first | (with_reducible first | exact HI0.out | apply IsS117.alloc | apply IsS117.drewN | apply IsS117.drew | apply IsS117.set_0 | apply IsS117.set_1) | exact HI0.out)⟩, ⟨by repeat (first | (with_reducible first | exact HK.out | apply KeepBut.set_ | apply keep_drewN | apply keep_drew | apply keep_alloc) | exact HK.out)⟩, ⟨by repeat (first | (with_reducible first | exact HB.out | apply below_alloc | apply pw_below_drewN | apply below_drew1 | refine below_set ?_ (IsS117.ge HI0.out)) | exact HB.out)⟩⟩
                      · rw [if_neg c20] at H
                        have c20b0 : (t110 == x5_3) = false := beq_eq_false_iff_ne.mpr c20
                        have c20b1 : (t110 != x5_3) = true := bne_iff_ne.mpr c20
                        (first | rw [c20b0] | (simp only [i64_w, i32_w]; rw [c20b0]) | skip)
                        have H' := Aside0.mk H
                        clear H
                        go_wp2_with (first | ((with_reducible refine gate_callee (f := 102) rfl ?_); refine goesL_ (some 54) rfl rfl Tryd.func102 (by kernel_rfl) rfl #[.int .u64 x7_3] rfl (by (try simp only [List.map_toArray, List.map_cons, List.map_nil]); first | done | rfl | (simp only [List.length_drop, List.length_take]; rfl)) ?_; (with_reducible refine (wire_size.calls x7_3 t110 _ A19.out).mono ?_); rintro e w' ⟨rfl, ⟨nd, rfl⟩⟩; refine ⟨_, rfl, ?_⟩))
                        go_meet
                        case rel => exact ⟨_, (true), (by first | rfl | (simp; done) | (simp [*]; done)), H', ⟨by have := HJ3.out; have := HJ6.out; have := HK3.out; first | omega | exact Nat.le_refl _⟩, ⟨by repeat (first | (with_reducible first | exact HI0.out | apply IsS117.alloc | apply IsS117.drewN | apply IsS117.drew | apply IsS117.set_0 | apply IsS117.set_1) | exact HI0.out)⟩, ⟨by repeat (first | (with_reducible first | exact HK.out | apply KeepBut.set_ | apply keep_drewN | apply keep_drew | apply keep_alloc) | exact HK.out)⟩, ⟨by repeat (first | (with_reducible first | exact HB.out | apply below_alloc | apply pw_below_drewN | apply below_drew1 | refine below_set ?_ (IsS117.ge HI0.out)) | exact HB.out)⟩⟩
                    case rest =>
                      clear HC18
                      try clear c1
                      try clear p1
                      try clear q1
                      try clear hx1
                      try clear c2
                      try clear p2
                      try clear c3
                      try clear c6
                      try clear c6b0
                      try clear p6
                      try clear c7
                      try clear c8
                      try clear c8b0
                      try clear c10
                      try clear c11
                      try clear c13
                      try clear c13b0
                      try clear c14
                      try clear c14b0
                      try clear c15
                      try clear c15b0
                      try clear p16
                      try clear q16
                      try clear hx16
                      try clear c20
                      try clear c20b0
                      try clear c20b1
                      try clear hcz17_0
                      try clear hcz17_1
                      try clear hcz9_0
                      try clear hcz9_1
                      try clear hfz17_0
                      try clear hfz17_1
                      try clear hfz9_0
                      try clear hfz9_1
                      try clear p16
                      try clear p2
                      try clear p6
                      try clear q16
                      obtain ⟨kq, x61_17, rfl, HA, HJ17, HI0, HK, HB⟩ := hcut
                      cases kq with
                      | zero => exact absurd HA.out (by simp [wire_Reader_Int.j3])
                      | succ kj17 =>
                        have H := HA.out
                        clear HA
                        simp only [wire_Reader_Int.j3] at H
                        by_cases c21 : x61_17 = true
                        · subst c21
                          have H1 : ((wire_Reader_fail.f t106 t107).bind fun bt111 => (some (0, bt111.1, bt111.2))) = some (r1, r2, r3) := by rw [if_pos rfl] at H; exact H
                          clear H
                          have H := H1
                          clear H1
                          replace H := Option.bind_eq_some_iff.mp H
                          obtain ⟨⟨t111, t112⟩, A220, H⟩ := H
                          replace H : (some (0, t111, t112)) = some (r1, r2, r3) := H
                          have A22 := Aside0.mk A220
                          clear A220
                          simp only [Option.some.injEq, Prod.mk.injEq] at H
                          obtain ⟨rfl, rfl, rfl⟩ := H
                          go_wp2_with (first | ((with_reducible refine gate_callee (f := 115) rfl ?_); refine goesL_ (some 63) rfl rfl Tryd.func115 (by kernel_rfl) rfl #[.pointer (some ⟨g, 0, none⟩)] rfl (by (try simp only [List.map_toArray, List.map_cons, List.map_nil]); first | done | rfl | (simp only [List.length_drop, List.length_take]; rfl)) ?_; (with_reducible refine (wire_Reader_fail.calls g t106 t107 t111 t112 w0 _ ?side1 ?side2 A22.out).mono ?_); (case side1 => repeat (first | (with_reducible first | exact HI0.out | apply IsS117.alloc | apply IsS117.drewN | apply IsS117.drew | apply IsS117.set_0 | apply IsS117.set_1) | exact HI0.out)); (case side2 => repeat (first | (with_reducible first | exact HB.out | apply below_alloc | apply pw_below_drewN | apply below_drew1 | refine below_set ?_ (IsS117.ge HI0.out)) | exact HB.out)); rintro e w23 ⟨rfl, hi, hb, hk⟩; refine ⟨_, rfl, ?_⟩; have n0_ := Aside0.mk (KeepBut.trans (by repeat (first | (with_reducible first | exact HK.out | apply KeepBut.set_ | apply keep_drewN | apply keep_drew | apply keep_alloc) | exact HK.out)) hk (.inl rfl)); have n1_ := Aside0.mk (hb); have n2_ := Aside0.mk (hi); clear HK; clear HB; clear HI0; have HK := n0_; have HB := n1_; have HI0 := n2_; clear n0_ n1_ n2_; (try clear hb); (try clear hb2); (try clear hk); (try clear hi)))
                          go_ret
                          exact ⟨by first | rfl | (simp [errW_none, errW_some] <;> rfl) | (simp [*, errW_none, errW_some] <;> rfl), by repeat (first | (with_reducible first | exact HI0.out | apply IsS117.alloc | apply IsS117.drewN | apply IsS117.drew | apply IsS117.set_0 | apply IsS117.set_1) | exact HI0.out), by repeat (first | (with_reducible first | exact HB.out | apply below_alloc | apply pw_below_drewN | apply below_drew1 | refine below_set ?_ (IsS117.ge HI0.out)) | exact HB.out), by repeat (first | (with_reducible first | exact HK.out | apply KeepBut.set_ | apply keep_drewN | apply keep_drew | apply keep_alloc) | exact HK.out)⟩
                        · replace c21 := Bool.eq_false_iff.mpr c21
                          subst c21
                          have H1 : (if 0 ≤ x5_3 then (if x5_3 ≤ (t106.size : Int) then (if x6_3 = 0 then (some (wrap64 (x7_3), t106.extract (x5_3 : Int).toNat t106.size, t107)) else (some (wrap64 (Go.bits .xor .u64 IntKind.u64.max x7_3), t106.extract (x5_3 : Int).toNat t106.size, t107))) else (none)) else (none)) = some (r1, r2, r3) := by rw [if_neg (show ¬ (false = true) by decide)] at H; exact H
                          clear H
                          have H := H1
                          clear H1
                          by_cases c24 : 0 ≤ x5_3
                          · rw [if_pos c24] at H
                            have c24b0 := eq_true c24
                            have c24b1 : decide (0 ≤ x5_3) = true := decide_eq_true c24
                            clear c24
                            by_cases c25 : x5_3 ≤ (t106.size : Int)
                            · rw [if_pos c25] at H
                              have c25b0 := eq_true c25
                              have c25b1 : decide (x5_3 ≤ (t106.size : Int)) = true := decide_eq_true c25
                              clear c25
                              by_cases c26 : x6_3 = 0
                              · rw [if_pos c26] at H
                                have c26b0 : (x6_3 == 0) = true := beq_iff_eq.mpr c26
                                have c26b1 : (x6_3 != 0) = false := bne_eq_false_iff_eq.mpr c26
                                clear c26
                                simp only [Option.some.injEq, Prod.mk.injEq] at H
                                obtain ⟨rfl, rfl, rfl⟩ := H
                                obtain ⟨HGz27, hgz27⟩ := HI0.out
                                have hcz27_0 := cellS117_0 HGz27
                                have hcz27_1 := cellS117_1 HGz27
                                have hfz27_0 := blk_frozen HGz27 0
                                have hfz27_1 := blk_frozen HGz27 1
                                clear HGz27 hgz27
                                go_wp2
                                go_ret
                                exact ⟨by first | rfl | (simp [errW_none, errW_some] <;> rfl) | (simp [*, errW_none, errW_some] <;> rfl), by repeat (first | (with_reducible first | exact HI0.out | apply IsS117.alloc | apply IsS117.drewN | apply IsS117.drew | apply IsS117.set_0 | apply IsS117.set_1) | exact HI0.out), by repeat (first | (with_reducible first | exact HB.out | apply below_alloc | apply pw_below_drewN | apply below_drew1 | refine below_set ?_ (IsS117.ge HI0.out)) | exact HB.out), by repeat (first | (with_reducible first | exact HK.out | apply KeepBut.set_ | apply keep_drewN | apply keep_drew | apply keep_alloc) | exact HK.out)⟩
                              · rw [if_neg c26] at H
                                have c26b0 : (x6_3 == 0) = false := beq_eq_false_iff_ne.mpr c26
                                have c26b1 : (x6_3 != 0) = true := bne_iff_ne.mpr c26
                                simp only [Option.some.injEq, Prod.mk.injEq] at H
                                obtain ⟨rfl, rfl, rfl⟩ := H
                                obtain ⟨HGz28, hgz28⟩ := HI0.out
                                have hcz28_0 := cellS117_0 HGz28
                                have hcz28_1 := cellS117_1 HGz28
                                have hfz28_0 := blk_frozen HGz28 0
                                have hfz28_1 := blk_frozen HGz28 1
                                clear HGz28 hgz28
                                go_wp2
                                go_ret
                                exact ⟨by first | rfl | (simp [errW_none, errW_some] <;> rfl) | (simp [*, errW_none, errW_some] <;> rfl), by repeat (first | (with_reducible first | exact HI0.out | apply IsS117.alloc | apply IsS117.drewN | apply IsS117.drew | apply IsS117.set_0 | apply IsS117.set_1) | exact HI0.out), by repeat (first | (with_reducible first | exact HB.out | apply below_alloc | apply pw_below_drewN | apply below_drew1 | refine below_set ?_ (IsS117.ge HI0.out)) | exact HB.out), by repeat (first | (with_reducible first | exact HK.out | apply KeepBut.set_ | apply keep_drewN | apply keep_drew | apply keep_alloc) | exact HK.out)⟩
                            · rw [if_neg c25] at H
                              exact absurd H (by simp)
                          · rw [if_neg c24] at H
                            exact absurd H (by simp)
  · replace c3 := Bool.eq_false_iff.mpr c3
    subst c3
    have H1 : (some (0, t106, t107)) = some (r1, r2, r3) := by rw [if_neg (show ¬ (false = true) by decide)] at H; exact H
    clear H
    have H := H1
    clear H1
    simp only [Option.some.injEq, Prod.mk.injEq] at H
    obtain ⟨rfl, rfl, rfl⟩ := H
    go_enter Tryd.func72, Tryd.ntmps72
    go_wp2_with (first | ((with_reducible refine gate_callee (f := 117) rfl ?_); refine goesL_ (some 11) rfl rfl Tryd.func117 (by kernel_rfl) rfl #[.pointer (some ⟨g, 0, none⟩)] rfl (by (try simp only [List.map_toArray, List.map_cons, List.map_nil]); first | done | rfl | (simp only [List.length_drop, List.length_take]; rfl)) ?_; (with_reducible refine (wire_Reader_byte.calls g s0_0 s0_1 t104 false t106 t107 w0 _ ?side1 ?side2 A2.out).mono ?_); (case side1 => repeat (first | (with_reducible first | exact HI0.out | apply IsS117.alloc | apply IsS117.drewN | apply IsS117.drew | apply IsS117.set_0 | apply IsS117.set_1) | exact HI0.out)); (case side2 => repeat (first | (with_reducible first | exact HB.out | apply below_alloc | apply pw_below_drewN | apply below_drew1 | refine below_set ?_ (IsS117.ge HI0.out)) | exact HB.out)); rintro e w29 ⟨rfl, hi, hb, hk⟩; refine ⟨_, rfl, ?_⟩; have n0_ := Aside0.mk (KeepBut.trans (by repeat (first | (with_reducible first | exact HK.out | apply KeepBut.set_ | apply keep_drewN | apply keep_drew | apply keep_alloc) | exact HK.out)) hk (.inl rfl)); have n1_ := Aside0.mk (hb); have n2_ := Aside0.mk (hi); clear HK; clear HB; clear HI0; have HK := n0_; have HB := n1_; have HI0 := n2_; clear n0_ n1_ n2_; (try clear hb); (try clear hb2); (try clear hk); (try clear hi)))
    go_ret
    exact ⟨by first | rfl | (simp [errW_none, errW_some] <;> rfl) | (simp [*, errW_none, errW_some] <;> rfl), by repeat (first | (with_reducible first | exact HI0.out | apply IsS117.alloc | apply IsS117.drewN | apply IsS117.drew | apply IsS117.set_0 | apply IsS117.set_1) | exact HI0.out), by repeat (first | (with_reducible first | exact HB.out | apply below_alloc | apply pw_below_drewN | apply below_drew1 | refine below_set ?_ (IsS117.ge HI0.out)) | exact HB.out), by repeat (first | (with_reducible first | exact HK.out | apply KeepBut.set_ | apply keep_drewN | apply keep_drew | apply keep_alloc) | exact HK.out)⟩

/-! ### wire_Reader_Num: function 70 -/
/-! ### bourneref02_digits: function 109 -/
def bourneref02_digits.l0 : Nat → Int → List Int → Option (List Int)
  | 0, _, _ => none
  | k + 1, x0, x3 => if x0 > 0 then ((some (([(Int.tmod x0 256) % 256] : List Int) : List Int)).bind fun y118 => (if y118.length + x3.length < 140737488355328 then (bourneref02_digits.l0 k (IntKind.u64.wrap (Int.tdiv x0 256)) (y118 ++ x3)) else (none))) else (some x3)
def bourneref02_digits.f (k : Nat) (a0 : Int) : Option (List Int) := bourneref02_digits.l0 k a0 ([] : List Int)
theorem bourneref02_digits.mono_l : ∀ k, (∀ y0 y1, LeO (bourneref02_digits.l0 k y0 y1) (bourneref02_digits.l0 (k + 1) y0 y1))
  | 0 => fun _ _ r h => by simp [bourneref02_digits.l0] at h
  | k + 1 => by
    have ih0 := bourneref02_digits.mono_l k
    · intro y0 y1
      unfold bourneref02_digits.l0
      repeat' first
      | (with_reducible exact ih0 _ _)
      | (with_reducible exact LeO.refl _)
      | (with_reducible exact LeO.none _)
      | (with_reducible refine LeO.ite ?_ ?_)
      | (with_reducible refine LeO.bind ?_ (fun _ => ?_))
      | exact ih0 _ _
      | exact LeO.none _
      | refine LeO.ite ?_ ?_
      | refine LeO.bind ?_ (fun _ => ?_)
theorem bourneref02_digits.mono : ∀ a0 k, LeO (bourneref02_digits.f k a0) (bourneref02_digits.f (k + 1) a0) := by
  intro a0 k
  have ih0 := bourneref02_digits.mono_l k
  unfold bourneref02_digits.f
  repeat' first
      | (with_reducible exact ih0 _ _)
      | (with_reducible exact LeO.refl _)
      | (with_reducible exact LeO.none _)
      | (with_reducible refine LeO.ite ?_ ?_)
      | (with_reducible refine LeO.bind ?_ (fun _ => ?_))
      | exact ih0 _ _
      | exact LeO.none _
      | refine LeO.ite ?_ ?_
      | refine LeO.bind ?_ (fun _ => ?_)
set_option maxHeartbeats 8000000 in
set_option maxRecDepth 100000 in
theorem bourneref02_digits.calls (k : Nat) (a0 : Int) (r : List Int) (w : World) (h : bourneref02_digits.f k a0 = some r) :
    Calls Tryd.prog 109 #[.int .u64 a0] w fun e w' => ∃ v0_ : Value, e = .returned (v0_) ∧ Kd.R (Kd.int .u8) 5 w' w.heap.size (fun _ => True) v0_ r ∧ Below w.heap.size w w' := by
  have HB := Aside0.mk (Below.refl w.heap.size w)
  have H : (bourneref02_digits.l0 k a0 ([] : List Int)) = some r := h
  clear h
  have H' := Aside0.mk H
  clear H
  go_enter Tryd.func109, Tryd.ntmps109
  go_wp2
  go_loopg [0, 3] k (fun kq v0 v3 w' => ∃ (x0_1 : Int) (x3_1 : List Int), v0 = .int .u64 x0_1 ∧ Aside0 (bourneref02_digits.l0 kq x0_1 x3_1 = some r) ∧ Aside0 (kq ≤ k) ∧ Aside0 (Kd.R (Kd.int .u8) 5 w' w.heap.size (fun _ => True) v3 x3_1) ∧ Aside0 (Below w.heap.size w w'))
  case atStart => exact ⟨(a0), (([] : List Int)), (by first | rfl | (simp; done) | (simp [*]; done)), H', ⟨Nat.le_refl _⟩, ⟨by first | exact Kd.R_nil _ _ _ _ _ | exact Kd.N_nil _ _ _ _ _ | exact Kd.V_nil _ _ _ _ _ | exact Kd.Q_nil _ _ _ _ _ | exact Kd.S_nil _ _ _ _ _⟩, ⟨by repeat (first | (with_reducible first | exact HB.out | apply below_alloc | apply pw_below_drewN | apply below_drew1) | exact HB.out)⟩⟩
  case round =>
    clear H'
    try clear c1
    obtain ⟨x0_1, x3_1, rfl, HA, HK1, HO_3, HB⟩ := hrel
    cases gk with
    | zero => exact absurd HA.out (by simp [bourneref02_digits.l0])
    | succ k1 =>
      have H := HA.out
      clear HA
      simp only [bourneref02_digits.l0] at H
      by_cases c2 : x0_1 > 0
      · rw [if_pos c2] at H
        have c2b0 : decide (0 < x0_1) = true := decide_eq_true c2
        clear c2
        obtain ⟨y118, hy118⟩ : ∃ y_ : List Int, y_ = (([(Int.tmod x0_1 256) % 256] : List Int)) := ⟨_, rfl⟩
        replace H : (if y118.length + x3_1.length < 140737488355328 then (bourneref02_digits.l0 k1 (IntKind.u64.wrap (Int.tdiv x0_1 256)) (y118 ++ x3_1)) else (none)) = some r := by first | (rw [hy118]; with_reducible exact H) | (have H2_ := (Option.bind_some _ _).symm.trans H; rw [hy118]; with_reducible exact H2_) | (have H2_ := (Option.bind_some _ _).symm.trans H; with_reducible exact H2_) | with_reducible exact H | (rw [hy118]; exact H) | exact H
        have Ny118 := Aside0.mk hy118
        clear hy118
        by_cases c3 : y118.length + x3_1.length < 140737488355328
        · rw [if_pos c3] at H
          have LMc3 := Aside0.mk c3
          clear c3
          obtain ⟨y121, hy121⟩ : ∃ y_ : List Int, y_ = (y118 ++ x3_1) := ⟨_, rfl⟩
          replace H : (bourneref02_digits.l0 k1 (IntKind.u64.wrap (Int.tdiv x0_1 256)) y121) = some r := by first | (rw [hy121]; with_reducible exact H) | (have H2_ := (Option.bind_some _ _).symm.trans H; rw [hy121]; with_reducible exact H2_) | (have H2_ := (Option.bind_some _ _).symm.trans H; with_reducible exact H2_) | with_reducible exact H | (rw [hy121]; exact H) | exact H
          have Ny121 := Aside0.mk hy121
          clear hy121
          have H' := Aside0.mk H
          clear H
          go_wp2_with (first | ((with_reducible refine gate_dst (N := 9) rfl ?_); refine Kd.R_lit (Kd.int .u8) _ 5 ?hg (N := 9) ?hd (xs := ([(Int.tmod x0_1 256) % 256] : List Int)) (inner := [.int .u8 ((Int.tmod x0_1 256) % 256)]) (ok := fun _ => True) (okp := fun _ => True) ?hr ?hp (fun _ hk => hk) trivial (Below.refl _ _) (Nat.le_refl _) (by simp) ?_; (case hd => rfl); (case hg => rfl); (case hr => first | (go_simp; done) | (go_simp; rfl)); (case hp => exact (Reps.one (show Kd.M (Kd.int .u8) _ _ _ ((Int.tmod x0_1 256) % 256) [.int .u8 ((Int.tmod x0_1 256) % 256)] from rfl) (Reps.none _ _))); intro v119 w4 ho5 hb hg_ hnew_; clear hg_ hnew_; (first | rw [← Ny118.out] at ho5 | (simp only [Int.reduceToNat] at ho5; rw [← Ny118.out] at ho5)); have n0_ := Aside0.mk (Kd.R_elder' (by (with_reducible repeat (first | apply Kd.R_alloc | apply Kd.R_drewN | apply Kd.R_drew)); exact HO_3.out) (Kd.R_base ho5) hb); have n1_ := Aside0.mk (Kd.R_lower (Kd.R_new' ho5 (Kd.R_lt (by (with_reducible repeat (first | apply Kd.R_alloc | apply Kd.R_drewN | apply Kd.R_drew)); exact HO_3.out))) (below_size (by repeat (first | (with_reducible first | exact HB.out | apply below_alloc | apply pw_below_drewN | apply below_drew1) | exact HB.out)))); have n2_ := Aside0.mk (below_step (by repeat (first | (with_reducible first | exact HB.out | apply below_alloc | apply pw_below_drewN | apply below_drew1) | exact HB.out)) hb); clear HO_3; clear HB; have HO_3 := n0_; have HO120 := n1_; have HB := n2_; clear n0_ n1_ n2_; clear hb ho5; obtain ⟨Ao7, co7, eo7⟩ := Kd.R_slice HO_3.out; subst eo7) | ((with_reducible refine gate_builtin (b := .append) (xs := #[.tmp 9, .tmp 10]) rfl ?_); at_builtin; refine Kd.R_append_rows (Kd.int .u8) (w0 := w) w.heap.size rfl (.tmp 9) (.tmp 10) 30 5 (.int .u8 0) 1 rfl Tryd.underlying30 info5 rfl (by decide) (by omega) v119 y118 x3_1 _ _ _ (fun k_ => some k_ ≠ (.slice Ao7 x3_1.length co7 : Value).ownBlock) (fun _ => False) rfl rfl ?aO ?aR (fun _ _ h => h) (fun _ h => h.elim) ?aF ?aB ?aS ?aL ?_; (case aR => repeat (first | exact (Kd.R_reads' HO_3.out).2.2 | (with_reducible refine Kd.C_alloc ?_ _) | (with_reducible refine Kd.C_drewN ?_ _) | (with_reducible refine Kd.C_drew ?_))); (case aB => exact (by repeat (first | (with_reducible first | exact HB.out | apply below_alloc | apply pw_below_drewN | apply below_drew1) | exact HB.out))); (case aF => exact (fun k_ hk => Kd.fresh' (Kd.R_lt (by (with_reducible repeat (first | apply Kd.R_alloc | apply Kd.R_drewN | apply Kd.R_drew)); exact HO_3.out)) k_ hk)); (case aO => exact (by (with_reducible repeat (first | apply Kd.R_alloc | apply Kd.R_drewN | apply Kd.R_drew)); exact Kd.R_mono HO120.out (fun _ hk => hk.2))); (case aS => exact (below_size (by repeat (first | (with_reducible first | exact HB.out | apply below_alloc | apply pw_below_drewN | apply below_drew1) | exact HB.out)))); (case aL => have := LMc3.out; omega); intro v122 w6 ho hb hg hat; rw [← Ny121.out] at ho; have n0_ := Aside0.mk (Kd.R_after (ok := (fun _ => True)) (by (with_reducible repeat (first | apply Kd.R_alloc | apply Kd.R_drewN | apply Kd.R_drew)); exact HO_3.out) hg hat); have n1_ := Aside0.mk (hb); have n2_ := Aside0.mk (ho); clear HO_3; clear HB; clear HO120; have HO_3 := n0_; have HB := n1_; have HO123 := n2_; clear n0_ n1_ n2_; clear ho hb hg hat))
          go_roundg k1
          case measure => have := HK1.out; omega
          case rel => exact ⟨(IntKind.u64.wrap (Int.tdiv x0_1 256)), (y121), (by first | rfl | (simp; done) | (simp [*]; done)), H', ⟨by have := HK1.out; omega⟩, ⟨by (with_reducible repeat (first | apply Kd.R_alloc | apply Kd.R_drewN | apply Kd.R_drew)); exact Kd.R_mono HO123.out (fun _ hk => trivial)⟩, ⟨by repeat (first | (with_reducible first | exact HB.out | apply below_alloc | apply pw_below_drewN | apply below_drew1) | exact HB.out)⟩⟩
        · rw [if_neg c3] at H
          exact absurd H (by simp)
      · rw [if_neg c2] at H
        have c2b0 : decide (0 < x0_1) = false := decide_eq_false c2
        clear c2
        obtain rfl := Option.some.inj H
        go_wp2
        go_ret
        exact ⟨_, by first | rfl | (simp [errW_none, errW_some] <;> rfl) | (simp [*, errW_none, errW_some] <;> rfl), by (with_reducible repeat (first | apply Kd.R_alloc | apply Kd.R_drewN | apply Kd.R_drew)); exact HO_3.out, by repeat (first | (with_reducible first | exact HB.out | apply below_alloc | apply pw_below_drewN | apply below_drew1) | exact HB.out)⟩

end Go.Proofs.YtdgejkiackeieaaDoor.PWr
end
section
set_option linter.unusedVariables false
set_option linter.unusedSimpArgs false
-- printed by a program of this session's (xprint.py) out of the translation; Lean checks it
namespace Go.Proofs.YtdgejkiackeieaaDoor.PWr
open Go.RowKit Go.Proofs.YtdgejkiackeieaaDoorW.PrintWords Go.Proofs.YtdgejkiackeieaaDoorW.PrintLast Go.Proofs.YtdgejkiackeieaaDoorW.PrintMore
attribute [local go_sem] max2_int min2_int max_two min_two max_three min_three max_four min_four   -- for this text's walks alone
set_option linter.unusedVariables false
set_option linter.unusedSimpArgs false

/-! ### bourneref02_Int: function 49 -/
def bourneref02_Int.l0 : Nat → List Int → List Int → Int → Option (ByteArray)
  | 0, _, _, _ => none
  | k + 1, x4, x5, x6 => if x6 < (x4.length : Int) then (if 0 ≤ x6 then (if x5.length < 140737488355328 then (bourneref02_Int.l0 k x4 (x5 ++ [(255 - (rd x4 x6)) % 256]) (wrap64 (x6 + 1))) else (none)) else (none)) else (some (strOfNums x5))
def bourneref02_Int.f (k : Nat) (a0 : Int) : Option (ByteArray) := if a0 ≥ 0 then ((bourneref02_digits.f k (IntKind.u64.wrap (a0))).bind fun t124 => ((some (([(wrap64 (128 + (t124.length : Int))) % 256] : List Int) : List Int)).bind fun y127 => (if y127.length + t124.length < 140737488355328 then (some (strOfNums (y127 ++ t124))) else (none)))) else ((bourneref02_digits.f k (IntKind.u64.wrap (wrap64 (-(wrap64 (a0 + 1)))))).bind fun t133 => (bourneref02_Int.l0 k t133 (([(wrap64 (127 - (t133.length : Int))) % 256] : List Int)) 0))
theorem bourneref02_Int.mono_l : ∀ k, (∀ y0 y1 y2, LeO (bourneref02_Int.l0 k y0 y1 y2) (bourneref02_Int.l0 (k + 1) y0 y1 y2))
  | 0 => fun _ _ _ r h => by simp [bourneref02_Int.l0] at h
  | k + 1 => by
    have ih0 := bourneref02_Int.mono_l k
    · intro y0 y1 y2
      unfold bourneref02_Int.l0
      repeat' first
      | (with_reducible exact ih0 _ _ _)
      | (with_reducible exact bourneref02_digits.mono _ _)
      | (with_reducible exact LeO.refl _)
      | (with_reducible exact LeO.none _)
      | (with_reducible refine LeO.ite ?_ ?_)
      | (with_reducible refine LeO.bind ?_ (fun _ => ?_))
      | exact ih0 _ _ _
      | exact bourneref02_digits.mono _ _
      | exact LeO.none _
      | refine LeO.ite ?_ ?_
      | refine LeO.bind ?_ (fun _ => ?_)
theorem bourneref02_Int.mono : ∀ a0 k, LeO (bourneref02_Int.f k a0) (bourneref02_Int.f (k + 1) a0) := by
  intro a0 k
  have ih0 := bourneref02_Int.mono_l k
  unfold bourneref02_Int.f
  repeat' first
      | (with_reducible exact ih0 _ _ _)
      | (with_reducible exact bourneref02_digits.mono _ _)
      | (with_reducible exact LeO.refl _)
      | (with_reducible exact LeO.none _)
      | (with_reducible refine LeO.ite ?_ ?_)
      | (with_reducible refine LeO.bind ?_ (fun _ => ?_))
      | exact ih0 _ _ _
      | exact bourneref02_digits.mono _ _
      | exact LeO.none _
      | refine LeO.ite ?_ ?_
      | refine LeO.bind ?_ (fun _ => ?_)
set_option maxHeartbeats 8000000 in
set_option maxRecDepth 100000 in
theorem bourneref02_Int.calls (k : Nat) (a0 : Int) (r : ByteArray) (w : World) (h : bourneref02_Int.f k a0 = some r) :
    Calls Tryd.prog 49 #[.int .i64 a0] w fun e w' => e = .returned (.string r) ∧ Below w.heap.size w w' := by
  have HB := Aside0.mk (Below.refl w.heap.size w)
  have H : (if a0 ≥ 0 then ((bourneref02_digits.f k (IntKind.u64.wrap (a0))).bind fun t124 => ((some (([(wrap64 (128 + (t124.length : Int))) % 256] : List Int) : List Int)).bind fun y127 => (if y127.length + t124.length < 140737488355328 then (some (strOfNums (y127 ++ t124))) else (none)))) else ((bourneref02_digits.f k (IntKind.u64.wrap (wrap64 (-(wrap64 (a0 + 1)))))).bind fun t133 => (bourneref02_Int.l0 k t133 (([(wrap64 (127 - (t133.length : Int))) % 256] : List Int)) 0))) = some r := h
  clear h
  by_cases c2 : a0 ≥ 0
  · rw [if_pos c2] at H
    have c2b0 : decide (0 ≤ a0) = true := decide_eq_true c2
    clear c2
    replace H := Option.bind_eq_some_iff.mp H
    obtain ⟨t124, A30, H⟩ := H
    replace H : ((some (([(wrap64 (128 + (t124.length : Int))) % 256] : List Int) : List Int)).bind fun y127 => (if y127.length + t124.length < 140737488355328 then (some (strOfNums (y127 ++ t124))) else (none))) = some r := H
    have A3 := Aside0.mk A30
    clear A30
    obtain ⟨y127, hy127⟩ : ∃ y_ : List Int, y_ = (([(wrap64 (128 + (t124.length : Int))) % 256] : List Int)) := ⟨_, rfl⟩
    replace H : (if y127.length + t124.length < 140737488355328 then (some (strOfNums (y127 ++ t124))) else (none)) = some r := by first | (rw [hy127]; with_reducible exact H) | (have H2_ := (Option.bind_some _ _).symm.trans H; rw [hy127]; with_reducible exact H2_) | (have H2_ := (Option.bind_some _ _).symm.trans H; with_reducible exact H2_) | with_reducible exact H | (rw [hy127]; exact H) | exact H
    have Ny127 := Aside0.mk hy127
    clear hy127
    by_cases c4 : y127.length + t124.length < 140737488355328
    · rw [if_pos c4] at H
      have LMc4 := Aside0.mk c4
      clear c4
      obtain ⟨y130, hy130⟩ : ∃ y_ : List Int, y_ = (y127 ++ t124) := ⟨_, rfl⟩
      replace H : (some (strOfNums y130)) = some r := by first | (rw [hy130]; with_reducible exact H) | (have H2_ := (Option.bind_some _ _).symm.trans H; rw [hy130]; with_reducible exact H2_) | (have H2_ := (Option.bind_some _ _).symm.trans H; with_reducible exact H2_) | with_reducible exact H | (rw [hy130]; exact H) | exact H
      have Ny130 := Aside0.mk hy130
      clear hy130
      obtain rfl := Option.some.inj H
      go_enter Tryd.func49, Tryd.ntmps49
      go_wp2_with (first | ((with_reducible refine gate_callee (f := 109) rfl ?_); refine goesL_ (some 11) rfl rfl Tryd.func109 (by kernel_rfl) rfl #[.int .u64 (IntKind.u64.wrap (a0))] rfl (by (try simp only [List.map_toArray, List.map_cons, List.map_nil]); first | done | rfl | (simp only [List.length_drop, List.length_take]; rfl)) ?_; (with_reducible refine (bourneref02_digits.calls k (IntKind.u64.wrap (a0)) t124 _ A3.out).mono ?_); rintro e w5 ⟨v125, rfl, ho0, hb⟩; refine ⟨_, rfl, ?_⟩; have n0_ := Aside0.mk (Kd.R_lower ho0 (below_size (by repeat (first | (with_reducible first | exact HB.out | apply below_alloc | apply pw_below_drewN | apply below_drew1) | exact HB.out)))); have n1_ := Aside0.mk (below_step (by repeat (first | (with_reducible first | exact HB.out | apply below_alloc | apply pw_below_drewN | apply below_drew1) | exact HB.out)) hb); clear HB; have HO126 := n0_; have HB := n1_; clear n0_ n1_; (try clear hb); (try clear hb2); (try clear hk); (try clear hi); (try clear ho0); obtain ⟨Ao6, co6, eo6⟩ := Kd.R_slice HO126.out; subst eo6) | ((with_reducible refine gate_dst (N := 16) rfl ?_); refine Kd.R_lit (Kd.int .u8) _ 5 ?hg (N := 16) ?hd (xs := ([(wrap64 (128 + (t124.length : Int))) % 256] : List Int)) (inner := [.int .u8 ((wrap64 (128 + (t124.length : Int))) % 256)]) (ok := fun _ => True) (okp := fun _ => True) ?hr ?hp (fun _ hk => hk) trivial (Below.refl _ _) (Nat.le_refl _) (by simp) ?_; (case hd => rfl); (case hg => rfl); (case hr => first | (go_simp; done) | (go_simp; rfl)); (case hp => exact (Reps.one (show Kd.M (Kd.int .u8) _ _ _ ((wrap64 (128 + (t124.length : Int))) % 256) [.int .u8 ((wrap64 (128 + (t124.length : Int))) % 256)] from rfl) (Reps.none _ _))); intro v128 w7 ho8 hb hg_ hnew_; clear hg_ hnew_; (first | rw [← Ny127.out] at ho8 | (simp only [Int.reduceToNat] at ho8; rw [← Ny127.out] at ho8)); have n0_ := Aside0.mk (Kd.R_elder' (by (with_reducible repeat (first | apply Kd.R_alloc | apply Kd.R_drewN | apply Kd.R_drew)); exact HO126.out) (Kd.R_base ho8) hb); have n1_ := Aside0.mk (Kd.R_lower (Kd.R_new' ho8 (Kd.R_lt (by (with_reducible repeat (first | apply Kd.R_alloc | apply Kd.R_drewN | apply Kd.R_drew)); exact HO126.out))) (below_size (by repeat (first | (with_reducible first | exact HB.out | apply below_alloc | apply pw_below_drewN | apply below_drew1) | exact HB.out)))); have n2_ := Aside0.mk (below_step (by repeat (first | (with_reducible first | exact HB.out | apply below_alloc | apply pw_below_drewN | apply below_drew1) | exact HB.out)) hb); clear HO126; clear HB; have HO126 := n0_; have HO129 := n1_; have HB := n2_; clear n0_ n1_ n2_; clear hb ho8) | ((with_reducible refine gate_builtin (b := .append) (xs := #[.tmp 16, .tmp 17]) rfl ?_); at_builtin; refine Kd.R_append_rows (Kd.int .u8) (w0 := w) w.heap.size rfl (.tmp 16) (.tmp 17) 30 5 (.int .u8 0) 1 rfl Tryd.underlying30 info5 rfl (by decide) (by omega) v128 y127 t124 _ _ _ (fun k_ => some k_ ≠ (.slice Ao6 t124.length co6 : Value).ownBlock) (fun _ => False) rfl rfl ?aO ?aR (fun _ _ h => h) (fun _ h => h.elim) ?aF ?aB ?aS ?aL ?_; (case aR => repeat (first | exact (Kd.R_reads' HO126.out).2.2 | (with_reducible refine Kd.C_alloc ?_ _) | (with_reducible refine Kd.C_drewN ?_ _) | (with_reducible refine Kd.C_drew ?_))); (case aB => exact (by repeat (first | (with_reducible first | exact HB.out | apply below_alloc | apply pw_below_drewN | apply below_drew1) | exact HB.out))); (case aF => exact (fun k_ hk => Kd.fresh' (Kd.R_lt (by (with_reducible repeat (first | apply Kd.R_alloc | apply Kd.R_drewN | apply Kd.R_drew)); exact HO126.out)) k_ hk)); (case aO => exact (by (with_reducible repeat (first | apply Kd.R_alloc | apply Kd.R_drewN | apply Kd.R_drew)); exact Kd.R_mono HO129.out (fun _ hk => hk.2))); (case aS => exact (below_size (by repeat (first | (with_reducible first | exact HB.out | apply below_alloc | apply pw_below_drewN | apply below_drew1) | exact HB.out)))); (case aL => have := LMc4.out; omega); intro v131 w9 ho hb hg hat; rw [← Ny130.out] at ho; have n0_ := Aside0.mk (Kd.R_after (ok := (fun _ => True)) (by (with_reducible repeat (first | apply Kd.R_alloc | apply Kd.R_drewN | apply Kd.R_drew)); exact HO126.out) hg hat); have n1_ := Aside0.mk (hb); have n2_ := Aside0.mk (ho); clear HO126; clear HB; clear HO129; have HO126 := n0_; have HB := n1_; have HO132 := n2_; clear n0_ n1_ n2_; clear ho hb hg hat; have hcv10 := own_string (P := Tryd.prog) Tryd.underlying30 Tryd.underlying5 Tryd.underlying9 (Kd.own_of_R HO132.out)))
      go_ret
      exact ⟨by first | rfl | (simp [errW_none, errW_some] <;> rfl) | (simp [*, errW_none, errW_some] <;> rfl), by repeat (first | (with_reducible first | exact HB.out | apply below_alloc | apply pw_below_drewN | apply below_drew1) | exact HB.out)⟩
    · rw [if_neg c4] at H
      exact absurd H (by simp)
  · rw [if_neg c2] at H
    have c2b0 : decide (0 ≤ a0) = false := decide_eq_false c2
    clear c2
    replace H := Option.bind_eq_some_iff.mp H
    obtain ⟨t133, A110, H⟩ := H
    replace H : (bourneref02_Int.l0 k t133 (([(wrap64 (127 - (t133.length : Int))) % 256] : List Int)) 0) = some r := H
    have A11 := Aside0.mk A110
    clear A110
    obtain ⟨y136, hy136⟩ : ∃ y_ : List Int, y_ = (([(wrap64 (127 - (t133.length : Int))) % 256] : List Int)) := ⟨_, rfl⟩
    replace H : (bourneref02_Int.l0 k t133 y136 0) = some r := by first | (rw [hy136]; with_reducible exact H) | (have H2_ := (Option.bind_some _ _).symm.trans H; rw [hy136]; with_reducible exact H2_) | (have H2_ := (Option.bind_some _ _).symm.trans H; with_reducible exact H2_) | with_reducible exact H | (rw [hy136]; exact H) | exact H
    have Ny136 := Aside0.mk hy136
    clear hy136
    have H' := Aside0.mk H
    clear H
    go_enter Tryd.func49, Tryd.ntmps49
    go_wp2_with (first | ((with_reducible refine gate_callee (f := 109) rfl ?_); refine goesL_ (some 24) rfl rfl Tryd.func109 (by kernel_rfl) rfl #[.int .u64 (IntKind.u64.wrap (wrap64 (-(wrap64 (a0 + 1)))))] rfl (by (try simp only [List.map_toArray, List.map_cons, List.map_nil]); first | done | rfl | (simp only [List.length_drop, List.length_take]; rfl)) ?_; (with_reducible refine (bourneref02_digits.calls k (IntKind.u64.wrap (wrap64 (-(wrap64 (a0 + 1))))) t133 _ A11.out).mono ?_); rintro e w12 ⟨v134, rfl, ho0, hb⟩; refine ⟨_, rfl, ?_⟩; have n0_ := Aside0.mk (Kd.R_lower ho0 (below_size (by repeat (first | (with_reducible first | exact HB.out | apply below_alloc | apply pw_below_drewN | apply below_drew1) | exact HB.out)))); have n1_ := Aside0.mk (below_step (by repeat (first | (with_reducible first | exact HB.out | apply below_alloc | apply pw_below_drewN | apply below_drew1) | exact HB.out)) hb); clear HB; have HO135 := n0_; have HB := n1_; clear n0_ n1_; (try clear hb); (try clear hb2); (try clear hk); (try clear hi); (try clear ho0); obtain ⟨Ao13, co13, eo13⟩ := Kd.R_slice HO135.out; subst eo13) | ((with_reducible refine gate_dst (N := 29) rfl ?_); refine Kd.R_lit (Kd.int .u8) _ 5 ?hg (N := 29) ?hd (xs := ([(wrap64 (127 - (t133.length : Int))) % 256] : List Int)) (inner := [.int .u8 ((wrap64 (127 - (t133.length : Int))) % 256)]) (ok := fun _ => True) (okp := fun _ => True) ?hr ?hp (fun _ hk => hk) trivial (Below.refl _ _) (Nat.le_refl _) (by simp) ?_; (case hd => rfl); (case hg => rfl); (case hr => first | (go_simp; done) | (go_simp; rfl)); (case hp => exact (Reps.one (show Kd.M (Kd.int .u8) _ _ _ ((wrap64 (127 - (t133.length : Int))) % 256) [.int .u8 ((wrap64 (127 - (t133.length : Int))) % 256)] from rfl) (Reps.none _ _))); intro v137 w14 ho15 hb hg_ hnew_; clear hg_ hnew_; (first | rw [← Ny136.out] at ho15 | (simp only [Int.reduceToNat] at ho15; rw [← Ny136.out] at ho15)); have n0_ := Aside0.mk (Kd.R_elder' (by (with_reducible repeat (first | apply Kd.R_alloc | apply Kd.R_drewN | apply Kd.R_drew)); exact HO135.out) (Kd.R_base ho15) hb); have n1_ := Aside0.mk (Kd.R_lower (Kd.R_new' ho15 (Kd.R_lt (by (with_reducible repeat (first | apply Kd.R_alloc | apply Kd.R_drewN | apply Kd.R_drew)); exact HO135.out))) (below_size (by repeat (first | (with_reducible first | exact HB.out | apply below_alloc | apply pw_below_drewN | apply below_drew1) | exact HB.out)))); have n2_ := Aside0.mk (below_step (by repeat (first | (with_reducible first | exact HB.out | apply below_alloc | apply pw_below_drewN | apply below_drew1) | exact HB.out)) hb); clear HO135; clear HB; have HO135 := n0_; have HO138 := n1_; have HB := n2_; clear n0_ n1_ n2_; clear hb ho15))
    go_loopg [5, 6] k (fun kq v5 v6 w' => ∃ (x5_1 : List Int) (x6_1 : Int), v6 = .int .i64 x6_1 ∧ Aside0 (bourneref02_Int.l0 kq t133 x5_1 x6_1 = some r) ∧ Aside0 (kq ≤ k) ∧ Aside0 (Kd.R (Kd.int .u8) 5 w' w.heap.size (fun k_ => some k_ ≠ (v5 : Value).ownBlock) (.slice Ao13 t133.length co13) t133) ∧ Aside0 (Kd.R (Kd.int .u8) 5 w' w.heap.size (fun k_ => some k_ ≠ ((.slice Ao13 t133.length co13) : Value).ownBlock) v5 x5_1) ∧ Aside0 (Below w.heap.size w w'))
    case atStart => exact ⟨(y136), (0), (by first | rfl | (simp; done) | (simp [*]; done)), H', ⟨Nat.le_refl _⟩, ⟨by (with_reducible repeat (first | apply Kd.R_alloc | apply Kd.R_drewN | apply Kd.R_drew)); exact Kd.R_mono HO135.out (fun _ hk => hk.2)⟩, ⟨by (with_reducible repeat (first | apply Kd.R_alloc | apply Kd.R_drewN | apply Kd.R_drew)); exact Kd.R_mono HO138.out (fun _ hk => hk.2)⟩, ⟨by repeat (first | (with_reducible first | exact HB.out | apply below_alloc | apply pw_below_drewN | apply below_drew1) | exact HB.out)⟩⟩
    case round =>
      clear H'
      try clear c1
      try clear hcv1
      try clear c2
      try clear c2b0
      try clear p2
      try clear c4
      try clear p6
      try clear c10
      try clear hcv10
      obtain ⟨x5_1, x6_1, rfl, HA, HK1, HO_4, HO_5, HB⟩ := hrel
      cases gk with
      | zero => exact absurd HA.out (by simp [bourneref02_Int.l0])
      | succ k1 =>
        have H := HA.out
        clear HA
        simp only [bourneref02_Int.l0] at H
        by_cases c16 : x6_1 < (t133.length : Int)
        · rw [if_pos c16] at H
          have c16b0 : decide (x6_1 < (t133.length : Int)) = true := decide_eq_true c16
          clear c16
          by_cases c17 : 0 ≤ x6_1
          · rw [if_pos c17] at H
            have c17b0 : decide (0 ≤ x6_1) = true := decide_eq_true c17
            clear c17
            by_cases c18 : x5_1.length < 140737488355328
            · rw [if_pos c18] at H
              have LMc18 := Aside0.mk c18
              clear c18
              obtain ⟨y140, hy140⟩ : ∃ y_ : List Int, y_ = (x5_1 ++ [(255 - (rd t133 x6_1)) % 256]) := ⟨_, rfl⟩
              replace H : (bourneref02_Int.l0 k1 t133 y140 (wrap64 (x6_1 + 1))) = some r := by first | (rw [hy140]; with_reducible exact H) | (have H2_ := (Option.bind_some _ _).symm.trans H; rw [hy140]; with_reducible exact H2_) | (have H2_ := (Option.bind_some _ _).symm.trans H; with_reducible exact H2_) | with_reducible exact H | (rw [hy140]; exact H) | exact H
              have Ny140 := Aside0.mk hy140
              clear hy140
              have H' := Aside0.mk H
              clear H
              have p139 : 0 ≤ (x6_1 : Int) := of_decide_eq_true (by first | (with_reducible assumption) | assumption)
              have q139 : x6_1 < (t133.length : Int) := of_decide_eq_true (by first | (with_reducible assumption) | assumption)
              obtain ⟨ad139, e139, hx139_0⟩ := Kd.at_int (Kd.R_reads' HO_4.out).2.2 x6_1 p139 q139
              cases e139
              replace p139 := eq_true p139
              replace q139 := eq_true q139
              go_wp2_with (first | ((with_reducible refine gate_builtin (b := .append) (xs := #[.tmp 36, .tmp 42]) rfl ?_); at_builtin; refine Kd.R_append (Kd.int .u8) (w0 := w) w.heap.size rfl (.tmp 36) (.tmp 42) 30 5 (.int .u8 0) 1 rfl Tryd.underlying30 info5 rfl (by decide) (by omega) u5 x5_1 ((255 - (rd t133 x6_1)) % 256) [.int .u8 ((255 - (rd t133 x6_1)) % 256)] (fun k_ => some k_ ≠ (.slice (some ad139) t133.length co13 : Value).ownBlock) (fun _ => False) rfl rfl ?aP (fun _ hk => hk.elim) ?aF ?aO ?aB ?aS ?aL ?_; (case aP => exact rfl); (case aB => exact (by repeat (first | (with_reducible first | exact HB.out | apply below_alloc | apply pw_below_drewN | apply below_drew1) | exact HB.out))); (case aF => exact (fun k_ hk => Kd.fresh' (Kd.R_lt (by (with_reducible repeat (first | apply Kd.R_alloc | apply Kd.R_drewN | apply Kd.R_drew)); exact HO_4.out)) k_ hk)); (case aO => exact (by (with_reducible repeat (first | apply Kd.R_alloc | apply Kd.R_drewN | apply Kd.R_drew)); exact HO_5.out)); (case aS => exact (below_size (by repeat (first | (with_reducible first | exact HB.out | apply below_alloc | apply pw_below_drewN | apply below_drew1) | exact HB.out)))); (case aL => have := LMc18.out; omega); intro v141 w19 ho hb hg hat; rw [← Ny140.out] at ho; have n0_ := Aside0.mk (Kd.R_after (ok := (fun _ => True)) (by (with_reducible repeat (first | apply Kd.R_alloc | apply Kd.R_drewN | apply Kd.R_drew)); exact Kd.R_mono HO_4.out (fun _ hk => ⟨trivial, hk⟩)) hg hat); have n1_ := Aside0.mk (hb); have n2_ := Aside0.mk (ho); clear HO_4; clear HB; clear HO_5; have HO_4 := n0_; have HB := n1_; have HO142 := n2_; clear n0_ n1_ n2_; clear ho hb hg hat))
              go_roundg k1
              case measure => have := HK1.out; omega
              case rel => exact ⟨(y140), (wrap64 (x6_1 + 1)), (by first | rfl | (simp; done) | (simp [*]; done)), H', ⟨by have := HK1.out; omega⟩, ⟨by (with_reducible repeat (first | apply Kd.R_alloc | apply Kd.R_drewN | apply Kd.R_drew)); exact Kd.R_mono HO_4.out (fun _ hk => hk.2)⟩, ⟨by (with_reducible repeat (first | apply Kd.R_alloc | apply Kd.R_drewN | apply Kd.R_drew)); exact HO142.out⟩, ⟨by repeat (first | (with_reducible first | exact HB.out | apply below_alloc | apply pw_below_drewN | apply below_drew1) | exact HB.out)⟩⟩
            · rw [if_neg c18] at H
              exact absurd H (by simp)
          · rw [if_neg c17] at H
            exact absurd H (by simp)
        · rw [if_neg c16] at H
          have c16b0 : decide (x6_1 < (t133.length : Int)) = false := decide_eq_false c16
          clear c16
          obtain rfl := Option.some.inj H
          have hcv20 := own_string (P := Tryd.prog) Tryd.underlying30 Tryd.underlying5 Tryd.underlying9 (Kd.own_of_R HO_5.out)
          go_wp2
          go_ret
          exact ⟨by first | rfl | (simp [errW_none, errW_some] <;> rfl) | (simp [*, errW_none, errW_some] <;> rfl), by repeat (first | (with_reducible first | exact HB.out | apply below_alloc | apply pw_below_drewN | apply below_drew1) | exact HB.out)⟩

/-! ### bourneref02_Num: function 51 -/
def bourneref02_Num.f (k : Nat) (a0 : Int) : Option (ByteArray) := if a0 < 0 then (some (⟨#[]⟩ : ByteArray)) else ((bourneref02_Int.f k a0).bind fun t143 => (some t143))
theorem bourneref02_Num.mono : ∀ a0 k, LeO (bourneref02_Num.f k a0) (bourneref02_Num.f (k + 1) a0) := by
  intro a0 k
  unfold bourneref02_Num.f
  repeat' first
      | (with_reducible exact bourneref02_Int.mono _ _)
      | (with_reducible exact LeO.refl _)
      | (with_reducible exact LeO.none _)
      | (with_reducible refine LeO.ite ?_ ?_)
      | (with_reducible refine LeO.bind ?_ (fun _ => ?_))
      | exact bourneref02_Int.mono _ _
      | exact LeO.none _
      | refine LeO.ite ?_ ?_
      | refine LeO.bind ?_ (fun _ => ?_)
set_option maxHeartbeats 8000000 in
set_option maxRecDepth 100000 in
theorem bourneref02_Num.calls (k : Nat) (a0 : Int) (r : ByteArray) (w : World) (h : bourneref02_Num.f k a0 = some r) :
    Calls Tryd.prog 51 #[.int .i64 a0] w fun e w' => e = .returned (.string r) ∧ Below w.heap.size w w' := by
  have HB := Aside0.mk (Below.refl w.heap.size w)
  have H : (if a0 < 0 then (some (⟨#[]⟩ : ByteArray)) else ((bourneref02_Int.f k a0).bind fun t143 => (some t143))) = some r := h
  clear h
  by_cases c2 : a0 < 0
  · rw [if_pos c2] at H
    have c2b0 : decide (a0 < 0) = true := decide_eq_true c2
    clear c2
    obtain rfl := Option.some.inj H
    go_enter Tryd.func51, Tryd.ntmps51
    go_wp2
    go_ret
    exact ⟨by first | rfl | (simp [errW_none, errW_some] <;> rfl) | (simp [*, errW_none, errW_some] <;> rfl), by repeat (first | (with_reducible first | exact HB.out | apply below_alloc | apply pw_below_drewN | apply below_drew1) | exact HB.out)⟩
  · rw [if_neg c2] at H
    have c2b0 : decide (a0 < 0) = false := decide_eq_false c2
    clear c2
    replace H := Option.bind_eq_some_iff.mp H
    obtain ⟨t143, A30, H⟩ := H
    replace H : (some t143) = some r := H
    have A3 := Aside0.mk A30
    clear A30
    obtain rfl := Option.some.inj H
    go_enter Tryd.func51, Tryd.ntmps51
    go_wp2_with (first | ((with_reducible refine gate_callee (f := 49) rfl ?_); refine goesL_ (some 6) rfl rfl Tryd.func49 (by kernel_rfl) rfl #[.int .i64 a0] rfl (by (try simp only [List.map_toArray, List.map_cons, List.map_nil]); first | done | rfl | (simp only [List.length_drop, List.length_take]; rfl)) ?_; (with_reducible refine (bourneref02_Int.calls k a0 t143 _ A3.out).mono ?_); rintro e w4 ⟨rfl, hb⟩; refine ⟨_, rfl, ?_⟩; have n0_ := Aside0.mk (below_step (by repeat (first | (with_reducible first | exact HB.out | apply below_alloc | apply pw_below_drewN | apply below_drew1) | exact HB.out)) hb); clear HB; have HB := n0_; clear n0_; (try clear hb); (try clear hb2); (try clear hk); (try clear hi)))
    go_ret
    exact ⟨by first | rfl | (simp [errW_none, errW_some] <;> rfl) | (simp [*, errW_none, errW_some] <;> rfl), by repeat (first | (with_reducible first | exact HB.out | apply below_alloc | apply pw_below_drewN | apply below_drew1) | exact HB.out)⟩

/-! ### bourneref02_Text: function 52 -/
def bourneref02_Text.l0 : Nat → ByteArray → List Int → Int → Option (ByteArray)
  | 0, _, _, _ => none
  | k + 1, x0, x3, x4 => if x4 < (x0.size : Int) then (if 0 ≤ x4 then (if x3.length < 140737488355328 then ((some (x3 ++ [bt x0 x4] : List Int)).bind fun y144 => (if (bt x0 x4) = 0 then (if y144.length < 140737488355328 then (bourneref02_Text.l0 k x0 (y144 ++ [255]) (wrap64 (x4 + 1))) else (none)) else (bourneref02_Text.l0 k x0 y144 (wrap64 (x4 + 1))))) else (none)) else (none)) else ((some (([0, 1] : List Int) : List Int)).bind fun y150 => (if x3.length + y150.length < 140737488355328 then (some (strOfNums (x3 ++ y150))) else (none)))
def bourneref02_Text.f (k : Nat) (a0 : ByteArray) : Option (ByteArray) := bourneref02_Text.l0 k a0 ([] : List Int) 0
theorem bourneref02_Text.mono_l : ∀ k, (∀ y0 y1 y2, LeO (bourneref02_Text.l0 k y0 y1 y2) (bourneref02_Text.l0 (k + 1) y0 y1 y2))
  | 0 => fun _ _ _ r h => by simp [bourneref02_Text.l0] at h
  | k + 1 => by
    have ih0 := bourneref02_Text.mono_l k
    · intro y0 y1 y2
      unfold bourneref02_Text.l0
      repeat' first
      | (with_reducible exact ih0 _ _ _)
      | (with_reducible exact LeO.refl _)
      | (with_reducible exact LeO.none _)
      | (with_reducible refine LeO.ite ?_ ?_)
      | (with_reducible refine LeO.bind ?_ (fun _ => ?_))
      | exact ih0 _ _ _
      | exact LeO.none _
      | refine LeO.ite ?_ ?_
      | refine LeO.bind ?_ (fun _ => ?_)
theorem bourneref02_Text.mono : ∀ a0 k, LeO (bourneref02_Text.f k a0) (bourneref02_Text.f (k + 1) a0) := by
  intro a0 k
  have ih0 := bourneref02_Text.mono_l k
  unfold bourneref02_Text.f
  repeat' first
      | (with_reducible exact ih0 _ _ _)
      | (with_reducible exact LeO.refl _)
      | (with_reducible exact LeO.none _)
      | (with_reducible refine LeO.ite ?_ ?_)
      | (with_reducible refine LeO.bind ?_ (fun _ => ?_))
      | exact ih0 _ _ _
      | exact LeO.none _
      | refine LeO.ite ?_ ?_
      | refine LeO.bind ?_ (fun _ => ?_)
set_option maxHeartbeats 8000000 in
set_option maxRecDepth 100000 in
theorem bourneref02_Text.calls (k : Nat) (a0 : ByteArray) (r : ByteArray) (w : World) (h : bourneref02_Text.f k a0 = some r) :
    Calls Tryd.prog 52 #[.string a0] w fun e w' => e = .returned (.string r) ∧ Below w.heap.size w w' := by
  have HB := Aside0.mk (Below.refl w.heap.size w)
  have H : (bourneref02_Text.l0 k a0 ([] : List Int) 0) = some r := h
  clear h
  have H' := Aside0.mk H
  clear H
  go_enter Tryd.func52, Tryd.ntmps52
  go_wp2
  go_loopg [3, 4] k (fun kq v3 v4 w' => ∃ (x3_1 : List Int) (x4_1 : Int), v4 = .int .i64 x4_1 ∧ Aside0 (bourneref02_Text.l0 kq a0 x3_1 x4_1 = some r) ∧ Aside0 (kq ≤ k) ∧ Aside0 (Kd.R (Kd.int .u8) 5 w' w.heap.size (fun _ => True) v3 x3_1) ∧ Aside0 (Below w.heap.size w w'))
  case atStart => exact ⟨(([] : List Int)), (0), (by first | rfl | (simp; done) | (simp [*]; done)), H', ⟨Nat.le_refl _⟩, ⟨by first | exact Kd.R_nil _ _ _ _ _ | exact Kd.N_nil _ _ _ _ _ | exact Kd.V_nil _ _ _ _ _ | exact Kd.Q_nil _ _ _ _ _ | exact Kd.S_nil _ _ _ _ _⟩, ⟨by repeat (first | (with_reducible first | exact HB.out | apply below_alloc | apply pw_below_drewN | apply below_drew1) | exact HB.out)⟩⟩
  case round =>
    clear H'
    obtain ⟨x3_1, x4_1, rfl, HA, HK1, HO_3, HB⟩ := hrel
    cases gk with
    | zero => exact absurd HA.out (by simp [bourneref02_Text.l0])
    | succ k1 =>
      have H := HA.out
      clear HA
      simp only [bourneref02_Text.l0] at H
      by_cases c2 : x4_1 < (a0.size : Int)
      · rw [if_pos c2] at H
        have c2b0 : decide (x4_1 < (a0.size : Int)) = true := decide_eq_true c2
        clear c2
        by_cases c3 : 0 ≤ x4_1
        · rw [if_pos c3] at H
          have c3b0 : decide (0 ≤ x4_1) = true := decide_eq_true c3
          clear c3
          by_cases c5 : x3_1.length < 140737488355328
          · rw [if_pos c5] at H
            have LMc5 := Aside0.mk c5
            clear c5
            obtain ⟨y144, hy144⟩ : ∃ y_ : List Int, y_ = (x3_1 ++ [bt a0 x4_1]) := ⟨_, rfl⟩
            replace H : (if (bt a0 x4_1) = 0 then (if y144.length < 140737488355328 then (bourneref02_Text.l0 k1 a0 (y144 ++ [255]) (wrap64 (x4_1 + 1))) else (none)) else (bourneref02_Text.l0 k1 a0 y144 (wrap64 (x4_1 + 1)))) = some r := by first | (rw [hy144]; with_reducible exact H) | (have H2_ := (Option.bind_some _ _).symm.trans H; rw [hy144]; with_reducible exact H2_) | (have H2_ := (Option.bind_some _ _).symm.trans H; with_reducible exact H2_) | with_reducible exact H | (rw [hy144]; exact H) | exact H
            have Ny144 := Aside0.mk hy144
            clear hy144
            by_cases c7 : (bt a0 x4_1) = 0
            · rw [if_pos c7] at H
              have c7b0 : ((bt a0 x4_1) == 0) = true := beq_iff_eq.mpr c7
              have c7b1 : ((bt a0 x4_1) != 0) = false := bne_eq_false_iff_eq.mpr c7
              clear c7
              by_cases c8 : y144.length < 140737488355328
              · rw [if_pos c8] at H
                have LMc8 := Aside0.mk c8
                clear c8
                obtain ⟨y147, hy147⟩ : ∃ y_ : List Int, y_ = (y144 ++ [255]) := ⟨_, rfl⟩
                replace H : (bourneref02_Text.l0 k1 a0 y147 (wrap64 (x4_1 + 1))) = some r := by first | (rw [hy147]; with_reducible exact H) | (have H2_ := (Option.bind_some _ _).symm.trans H; rw [hy147]; with_reducible exact H2_) | (have H2_ := (Option.bind_some _ _).symm.trans H; with_reducible exact H2_) | with_reducible exact H | (rw [hy147]; exact H) | exact H
                have Ny147 := Aside0.mk hy147
                clear hy147
                have H' := Aside0.mk H
                clear H
                have p4 : 0 ≤ (x4_1 : Int) := of_decide_eq_true (by first | (with_reducible assumption) | assumption)
                have q4 : x4_1 < (a0.size : Int) := of_decide_eq_true (by first | (with_reducible assumption) | assumption)
                have hx4 := bt_at a0 x4_1
                replace p4 := eq_true p4
                replace q4 := eq_true q4
                go_wp2_with (first | ((with_reducible refine gate_builtin (b := .append) (xs := #[.tmp 11, .tmp 15]) rfl ?_); at_builtin; refine Kd.R_append (Kd.int .u8) (w0 := w) w.heap.size rfl (.tmp 11) (.tmp 15) 30 5 (.int .u8 0) 1 rfl Tryd.underlying30 info5 rfl (by decide) (by omega) u3 x3_1 (bt a0 x4_1) [.int .u8 (bt a0 x4_1)] (fun _ => True) (fun _ => False) rfl rfl ?aP (fun _ hk => hk.elim) ?aF ?aO ?aB ?aS ?aL ?_; (case aP => exact rfl); (case aB => exact (by repeat (first | (with_reducible first | exact HB.out | apply below_alloc | apply pw_below_drewN | apply below_drew1) | exact HB.out))); (case aF => exact (fun _ _ => trivial)); (case aO => exact (by (with_reducible repeat (first | apply Kd.R_alloc | apply Kd.R_drewN | apply Kd.R_drew)); exact HO_3.out)); (case aS => exact (below_size (by repeat (first | (with_reducible first | exact HB.out | apply below_alloc | apply pw_below_drewN | apply below_drew1) | exact HB.out)))); (case aL => have := LMc5.out; omega); intro v145 w9 ho hb hg hat; rw [← Ny144.out] at ho; have n0_ := Aside0.mk (hb); have n1_ := Aside0.mk (ho); clear HB; clear HO_3; have HB := n0_; have HO146 := n1_; clear n0_ n1_; clear ho hb hg hat; have p6 : 0 ≤ (x4_1 : Int) := of_decide_eq_true (by first | (with_reducible assumption) | assumption); have q6 : x4_1 < (a0.size : Int) := of_decide_eq_true (by first | (with_reducible assumption) | assumption); have hx6 := bt_at a0 x4_1; replace p6 := eq_true p6; replace q6 := eq_true q6) | ((with_reducible refine gate_builtin (b := .append) (xs := #[.tmp 21, .tmp 22]) rfl ?_); at_builtin; refine Kd.R_append (Kd.int .u8) (w0 := w) w.heap.size rfl (.tmp 21) (.tmp 22) 30 5 (.int .u8 0) 1 rfl Tryd.underlying30 info5 rfl (by decide) (by omega) v145 y144 255 [.int .u8 255] (fun _ => True) (fun _ => False) rfl rfl ?aP (fun _ hk => hk.elim) ?aF ?aO ?aB ?aS ?aL ?_; (case aP => exact rfl); (case aB => exact (by repeat (first | (with_reducible first | exact HB.out | apply below_alloc | apply pw_below_drewN | apply below_drew1) | exact HB.out))); (case aF => exact (fun _ _ => trivial)); (case aO => exact (by (with_reducible repeat (first | apply Kd.R_alloc | apply Kd.R_drewN | apply Kd.R_drew)); exact HO146.out)); (case aS => exact (below_size (by repeat (first | (with_reducible first | exact HB.out | apply below_alloc | apply pw_below_drewN | apply below_drew1) | exact HB.out)))); (case aL => have := LMc8.out; omega); intro v148 w10 ho hb hg hat; rw [← Ny147.out] at ho; have n0_ := Aside0.mk (hb); have n1_ := Aside0.mk (ho); clear HB; clear HO146; have HB := n0_; have HO149 := n1_; clear n0_ n1_; clear ho hb hg hat))
                go_roundg k1
                case measure => have := HK1.out; omega
                case rel => exact ⟨(y147), (wrap64 (x4_1 + 1)), (by first | rfl | (simp; done) | (simp [*]; done)), H', ⟨by have := HK1.out; omega⟩, ⟨by (with_reducible repeat (first | apply Kd.R_alloc | apply Kd.R_drewN | apply Kd.R_drew)); exact HO149.out⟩, ⟨by repeat (first | (with_reducible first | exact HB.out | apply below_alloc | apply pw_below_drewN | apply below_drew1) | exact HB.out)⟩⟩
              · rw [if_neg c8] at H
                exact absurd H (by simp)
            · rw [if_neg c7] at H
              have c7b0 : ((bt a0 x4_1) == 0) = false := beq_eq_false_iff_ne.mpr c7
              have c7b1 : ((bt a0 x4_1) != 0) = true := bne_iff_ne.mpr c7
              have H' := Aside0.mk H
              clear H
              have p4 : 0 ≤ (x4_1 : Int) := of_decide_eq_true (by first | (with_reducible assumption) | assumption)
              have q4 : x4_1 < (a0.size : Int) := of_decide_eq_true (by first | (with_reducible assumption) | assumption)
              have hx4 := bt_at a0 x4_1
              replace p4 := eq_true p4
              replace q4 := eq_true q4
              go_wp2_with (first | ((with_reducible refine gate_builtin (b := .append) (xs := #[.tmp 11, .tmp 15]) rfl ?_); at_builtin; refine Kd.R_append (Kd.int .u8) (w0 := w) w.heap.size rfl (.tmp 11) (.tmp 15) 30 5 (.int .u8 0) 1 rfl Tryd.underlying30 info5 rfl (by decide) (by omega) u3 x3_1 (bt a0 x4_1) [.int .u8 (bt a0 x4_1)] (fun _ => True) (fun _ => False) rfl rfl ?aP (fun _ hk => hk.elim) ?aF ?aO ?aB ?aS ?aL ?_; (case aP => exact rfl); (case aB => exact (by repeat (first | (with_reducible first | exact HB.out | apply below_alloc | apply pw_below_drewN | apply below_drew1) | exact HB.out))); (case aF => exact (fun _ _ => trivial)); (case aO => exact (by (with_reducible repeat (first | apply Kd.R_alloc | apply Kd.R_drewN | apply Kd.R_drew)); exact HO_3.out)); (case aS => exact (below_size (by repeat (first | (with_reducible first | exact HB.out | apply below_alloc | apply pw_below_drewN | apply below_drew1) | exact HB.out)))); (case aL => have := LMc5.out; omega); intro v145 w11 ho hb hg hat; rw [← Ny144.out] at ho; have n0_ := Aside0.mk (hb); have n1_ := Aside0.mk (ho); clear HB; clear HO_3; have HB := n0_; have HO146 := n1_; clear n0_ n1_; clear ho hb hg hat; have p6 : 0 ≤ (x4_1 : Int) := of_decide_eq_true (by first | (with_reducible assumption) | assumption); have q6 : x4_1 < (a0.size : Int) := of_decide_eq_true (by first | (with_reducible assumption) | assumption); have hx6 := bt_at a0 x4_1; replace p6 := eq_true p6; replace q6 := eq_true q6))
              go_roundg k1
              case measure => have := HK1.out; omega
              case rel => exact ⟨(y144), (wrap64 (x4_1 + 1)), (by first | rfl | (simp; done) | (simp [*]; done)), H', ⟨by have := HK1.out; omega⟩, ⟨by (with_reducible repeat (first | apply Kd.R_alloc | apply Kd.R_drewN | apply Kd.R_drew)); exact HO146.out⟩, ⟨by repeat (first | (with_reducible first | exact HB.out | apply below_alloc | apply pw_below_drewN | apply below_drew1) | exact HB.out)⟩⟩
          · rw [if_neg c5] at H
            exact absurd H (by simp)
        · rw [if_neg c3] at H
          exact absurd H (by simp)
      · rw [if_neg c2] at H
        have c2b0 : decide (x4_1 < (a0.size : Int)) = false := decide_eq_false c2
        clear c2
        obtain ⟨y150, hy150⟩ : ∃ y_ : List Int, y_ = (([0, 1] : List Int)) := ⟨_, rfl⟩
        replace H : (if x3_1.length + y150.length < 140737488355328 then (some (strOfNums (x3_1 ++ y150))) else (none)) = some r := by first | (rw [hy150]; with_reducible exact H) | (have H2_ := (Option.bind_some _ _).symm.trans H; rw [hy150]; with_reducible exact H2_) | (have H2_ := (Option.bind_some _ _).symm.trans H; with_reducible exact H2_) | with_reducible exact H | (rw [hy150]; exact H) | exact H
        have Ny150 := Aside0.mk hy150
        clear hy150
        by_cases c12 : x3_1.length + y150.length < 140737488355328
        · rw [if_pos c12] at H
          have LMc12 := Aside0.mk c12
          clear c12
          obtain ⟨y153, hy153⟩ : ∃ y_ : List Int, y_ = (x3_1 ++ y150) := ⟨_, rfl⟩
          replace H : (some (strOfNums y153)) = some r := by first | (rw [hy153]; with_reducible exact H) | (have H2_ := (Option.bind_some _ _).symm.trans H; rw [hy153]; with_reducible exact H2_) | (have H2_ := (Option.bind_some _ _).symm.trans H; with_reducible exact H2_) | with_reducible exact H | (rw [hy153]; exact H) | exact H
          have Ny153 := Aside0.mk hy153
          clear hy153
          obtain rfl := Option.some.inj H
          go_wp2_with (first | ((with_reducible refine gate_dst (N := 25) rfl ?_); refine Kd.R_lit (Kd.int .u8) _ 5 ?hg (N := 25) ?hd (xs := ([0, 1] : List Int)) (inner := [.int .u8 0, .int .u8 1]) (ok := fun _ => True) (okp := fun _ => True) ?hr ?hp (fun _ hk => hk) trivial (Below.refl _ _) (Nat.le_refl _) (by simp) ?_; (case hd => rfl); (case hg => rfl); (case hr => first | (go_simp; done) | (go_simp; rfl)); (case hp => exact (Reps.one (show Kd.M (Kd.int .u8) _ _ _ 0 [.int .u8 0] from rfl) (Reps.one (show Kd.M (Kd.int .u8) _ _ _ 1 [.int .u8 1] from rfl) (Reps.none _ _)))); intro v151 w13 ho14 hb hg_ hnew_; clear hg_ hnew_; (first | rw [← Ny150.out] at ho14 | (simp only [Int.reduceToNat] at ho14; rw [← Ny150.out] at ho14)); have n0_ := Aside0.mk (Kd.R_elder' (by (with_reducible repeat (first | apply Kd.R_alloc | apply Kd.R_drewN | apply Kd.R_drew)); exact HO_3.out) (Kd.R_base ho14) hb); have n1_ := Aside0.mk (Kd.R_lower (Kd.R_new' ho14 (Kd.R_lt (by (with_reducible repeat (first | apply Kd.R_alloc | apply Kd.R_drewN | apply Kd.R_drew)); exact HO_3.out))) (below_size (by repeat (first | (with_reducible first | exact HB.out | apply below_alloc | apply pw_below_drewN | apply below_drew1) | exact HB.out)))); have n2_ := Aside0.mk (below_step (by repeat (first | (with_reducible first | exact HB.out | apply below_alloc | apply pw_below_drewN | apply below_drew1) | exact HB.out)) hb); clear HO_3; clear HB; have HO_3 := n0_; have HO152 := n1_; have HB := n2_; clear n0_ n1_ n2_; clear hb ho14; obtain ⟨Ao16, co16, eo16⟩ := Kd.R_slice HO152.out; subst eo16) | ((with_reducible refine gate_builtin (b := .append) (xs := #[.tmp 24, .tmp 25]) rfl ?_); at_builtin; refine Kd.R_append_rows (Kd.int .u8) (w0 := w) w.heap.size rfl (.tmp 24) (.tmp 25) 30 5 (.int .u8 0) 1 rfl Tryd.underlying30 info5 rfl (by decide) (by omega) u3 x3_1 y150 _ _ _ (fun k_ => some k_ ≠ (.slice Ao16 y150.length co16 : Value).ownBlock) (fun _ => False) rfl rfl ?aO ?aR (fun _ _ h => h) (fun _ h => h.elim) ?aF ?aB ?aS ?aL ?_; (case aR => repeat (first | exact (Kd.R_reads' HO152.out).2.2 | (with_reducible refine Kd.C_alloc ?_ _) | (with_reducible refine Kd.C_drewN ?_ _) | (with_reducible refine Kd.C_drew ?_))); (case aB => exact (by repeat (first | (with_reducible first | exact HB.out | apply below_alloc | apply pw_below_drewN | apply below_drew1) | exact HB.out))); (case aF => exact (fun k_ hk => Kd.fresh' (Kd.R_lt (by (with_reducible repeat (first | apply Kd.R_alloc | apply Kd.R_drewN | apply Kd.R_drew)); exact HO152.out)) k_ hk)); (case aO => exact (by (with_reducible repeat (first | apply Kd.R_alloc | apply Kd.R_drewN | apply Kd.R_drew)); exact Kd.R_mono HO_3.out (fun _ hk => hk.2))); (case aS => exact (below_size (by repeat (first | (with_reducible first | exact HB.out | apply below_alloc | apply pw_below_drewN | apply below_drew1) | exact HB.out)))); (case aL => have := LMc12.out; omega); intro v154 w15 ho hb hg hat; rw [← Ny153.out] at ho; have n0_ := Aside0.mk (Kd.R_after (ok := (fun _ => True)) (by (with_reducible repeat (first | apply Kd.R_alloc | apply Kd.R_drewN | apply Kd.R_drew)); exact HO152.out) hg hat); have n1_ := Aside0.mk (hb); have n2_ := Aside0.mk (ho); clear HO152; clear HB; clear HO_3; have HO152 := n0_; have HB := n1_; have HO155 := n2_; clear n0_ n1_ n2_; clear ho hb hg hat; have hcv17 := own_string (P := Tryd.prog) Tryd.underlying30 Tryd.underlying5 Tryd.underlying9 (Kd.own_of_R HO155.out)))
          go_ret
          exact ⟨by first | rfl | (simp [errW_none, errW_some] <;> rfl) | (simp [*, errW_none, errW_some] <;> rfl), by repeat (first | (with_reducible first | exact HB.out | apply below_alloc | apply pw_below_drewN | apply below_drew1) | exact HB.out)⟩
        · rw [if_neg c12] at H
          exact absurd H (by simp)

/-! ### bourneref02_Nums: function 54 -/
def bourneref02_Nums.l0 : Nat → List Int → ByteArray → Int → Option (ByteArray)
  | 0, _, _, _ => none
  | k + 1, x0, x3, x4 => if x4 < (x0.length : Int) then (if x3.size + 1 ≤ 9223372036854775807 then (if 0 ≤ x4 then ((bourneref02_Int.f k (rd x0 x4)).bind fun t157 => (if (x3 ++ (⟨#[1]⟩ : ByteArray)).size + t157.size ≤ 9223372036854775807 then (bourneref02_Nums.l0 k x0 ((x3 ++ (⟨#[1]⟩ : ByteArray)) ++ t157) (wrap64 (x4 + 1))) else (none))) else (none)) else (none)) else (if x3.size + 1 ≤ 9223372036854775807 then (some (x3 ++ (⟨#[0]⟩ : ByteArray))) else (none))
def bourneref02_Nums.f (k : Nat) (l0 : List Int) : Option (ByteArray) := bourneref02_Nums.l0 k l0 (⟨#[]⟩ : ByteArray) 0
theorem bourneref02_Nums.mono_l : ∀ k, (∀ y0 y1 y2, LeO (bourneref02_Nums.l0 k y0 y1 y2) (bourneref02_Nums.l0 (k + 1) y0 y1 y2))
  | 0 => fun _ _ _ r h => by simp [bourneref02_Nums.l0] at h
  | k + 1 => by
    have ih0 := bourneref02_Nums.mono_l k
    · intro y0 y1 y2
      unfold bourneref02_Nums.l0
      repeat' first
      | (with_reducible exact ih0 _ _ _)
      | (with_reducible exact bourneref02_Int.mono _ _)
      | (with_reducible exact LeO.refl _)
      | (with_reducible exact LeO.none _)
      | (with_reducible refine LeO.ite ?_ ?_)
      | (with_reducible refine LeO.bind ?_ (fun _ => ?_))
      | exact ih0 _ _ _
      | exact bourneref02_Int.mono _ _
      | exact LeO.none _
      | refine LeO.ite ?_ ?_
      | refine LeO.bind ?_ (fun _ => ?_)
theorem bourneref02_Nums.mono : ∀ a0 k, LeO (bourneref02_Nums.f k a0) (bourneref02_Nums.f (k + 1) a0) := by
  intro a0 k
  have ih0 := bourneref02_Nums.mono_l k
  unfold bourneref02_Nums.f
  repeat' first
      | (with_reducible exact ih0 _ _ _)
      | (with_reducible exact bourneref02_Int.mono _ _)
      | (with_reducible exact LeO.refl _)
      | (with_reducible exact LeO.none _)
      | (with_reducible refine LeO.ite ?_ ?_)
      | (with_reducible refine LeO.bind ?_ (fun _ => ?_))
      | exact ih0 _ _ _
      | exact bourneref02_Int.mono _ _
      | exact LeO.none _
      | refine LeO.ite ?_ ?_
      | refine LeO.bind ?_ (fun _ => ?_)
set_option maxHeartbeats 8000000 in
set_option maxRecDepth 100000 in
theorem bourneref02_Nums.calls (k : Nat) (A0 : Option Addr) (c0 : Nat) (l0 : List Int) (r : ByteArray) (w : World) (hr0 : Kd.C (Kd.int .i64) w A0 l0.length l0) (hc0 : l0.length ≤ c0) (h : bourneref02_Nums.f k l0 = some r) :
    Calls Tryd.prog 54 #[.slice A0 l0.length c0] w fun e w' => e = .returned (.string r) ∧ Below w.heap.size w w' := by
  have HR0 := Aside0.mk hr0
  have HC0 := Aside0.mk hc0
  clear hr0 hc0
  have HB := Aside0.mk (Below.refl w.heap.size w)
  have H : (bourneref02_Nums.l0 k l0 (⟨#[]⟩ : ByteArray) 0) = some r := h
  clear h
  have H' := Aside0.mk H
  clear H
  go_enter Tryd.func54, Tryd.ntmps54
  go_wp2
  go_loopg [3, 4] k (fun kq v3 v4 w' => ∃ (x3_1 : ByteArray) (x4_1 : Int), v3 = .string x3_1 ∧ v4 = .int .i64 x4_1 ∧ Aside0 (bourneref02_Nums.l0 kq l0 x3_1 x4_1 = some r) ∧ Aside0 (kq ≤ k) ∧ Aside0 (Below w.heap.size w w'))
  case atStart => exact ⟨((⟨#[]⟩ : ByteArray)), (0), (by first | rfl | (simp; done) | (simp [*]; done)), (by first | rfl | (simp; done) | (simp [*]; done)), H', ⟨Nat.le_refl _⟩, ⟨by repeat (first | (with_reducible first | exact HB.out | apply below_alloc | apply pw_below_drewN | apply below_drew1) | exact HB.out)⟩⟩
  case round =>
    clear H'
    obtain ⟨x3_1, x4_1, rfl, rfl, HA, HK1, HB⟩ := hrel
    cases gk with
    | zero => exact absurd HA.out (by simp [bourneref02_Nums.l0])
    | succ k1 =>
      have H := HA.out
      clear HA
      simp only [bourneref02_Nums.l0] at H
      by_cases c2 : x4_1 < (l0.length : Int)
      · rw [if_pos c2] at H
        have c2b0 : decide (x4_1 < (l0.length : Int)) = true := decide_eq_true c2
        clear c2
        by_cases c3 : x3_1.size + 1 ≤ 9223372036854775807
        · rw [if_pos c3] at H
          have c3b0 := eq_true c3
          have c3b1 : decide (x3_1.size + 1 ≤ 9223372036854775807) = true := decide_eq_true c3
          try have c3b2 : (9223372036854775807 < x3_1.size + 1) = False := eq_false (Nat.not_lt.2 c3)
          by_cases c4 : 0 ≤ x4_1
          · rw [if_pos c4] at H
            have c4b0 : decide (0 ≤ x4_1) = true := decide_eq_true c4
            clear c4
            replace H := Option.bind_eq_some_iff.mp H
            obtain ⟨t157, A50, H⟩ := H
            replace H : (if (x3_1 ++ (⟨#[1]⟩ : ByteArray)).size + t157.size ≤ 9223372036854775807 then (bourneref02_Nums.l0 k1 l0 ((x3_1 ++ (⟨#[1]⟩ : ByteArray)) ++ t157) (wrap64 (x4_1 + 1))) else (none)) = some r := H
            have A5 := Aside0.mk A50
            clear A50
            by_cases c6 : (x3_1 ++ (⟨#[1]⟩ : ByteArray)).size + t157.size ≤ 9223372036854775807
            · rw [if_pos c6] at H
              have c6b0 := eq_true c6
              have c6n : x3_1.size + 1 + t157.size ≤ 9223372036854775807 := by have h_ := c6; simp only [ByteArray.size_append] at h_; exact h_
              have c6n0 := eq_true c6n
              have c6n1 : (9223372036854775807 < x3_1.size + 1 + t157.size) = False := eq_false (Nat.not_lt.2 c6n)
              have c6b1 : decide ((x3_1 ++ (⟨#[1]⟩ : ByteArray)).size + t157.size ≤ 9223372036854775807) = true := decide_eq_true c6
              try have c6b2 : (9223372036854775807 < (x3_1 ++ (⟨#[1]⟩ : ByteArray)).size + t157.size) = False := eq_false (Nat.not_lt.2 c6)
              have H' := Aside0.mk H
              clear H
              have p156 : 0 ≤ (x4_1 : Int) := of_decide_eq_true (by first | (with_reducible assumption) | assumption)
              have q156 : x4_1 < (l0.length : Int) := of_decide_eq_true (by first | (with_reducible assumption) | assumption)
              obtain ⟨ad156, e156, hx156_0⟩ := Kd.at_int HR0.out x4_1 p156 q156
              cases e156
              replace hx156_0 := (HB.out.cell (World.block_lt_of_cell? w _ hx156_0)).trans hx156_0
              replace p156 := eq_true p156
              replace q156 := eq_true q156
              go_wp2_with (first | ((with_reducible refine gate_callee (f := 49) rfl ?_); refine goesL_ (some 17) rfl rfl Tryd.func49 (by kernel_rfl) rfl #[.int .i64 (rd l0 x4_1)] rfl (by (try simp only [List.map_toArray, List.map_cons, List.map_nil]); first | done | rfl | (simp only [List.length_drop, List.length_take]; rfl)) ?_; (with_reducible refine (bourneref02_Int.calls k1 (rd l0 x4_1) t157 _ A5.out).mono ?_); rintro e w7 ⟨rfl, hb⟩; refine ⟨_, rfl, ?_⟩; have n0_ := Aside0.mk (below_step (by repeat (first | (with_reducible first | exact HB.out | apply below_alloc | apply pw_below_drewN | apply below_drew1) | exact HB.out)) hb); clear HB; have HB := n0_; clear n0_; (try clear hb); (try clear hb2); (try clear hk); (try clear hi)))
              go_roundg k1
              case measure => have := HK1.out; omega
              case rel => exact ⟨((x3_1 ++ (⟨#[1]⟩ : ByteArray)) ++ t157), (wrap64 (x4_1 + 1)), (by first | rfl | (simp; done) | (simp [*]; done)), (by first | rfl | (simp; done) | (simp [*]; done)), H', ⟨by have := HK1.out; omega⟩, ⟨by repeat (first | (with_reducible first | exact HB.out | apply below_alloc | apply pw_below_drewN | apply below_drew1) | exact HB.out)⟩⟩
            · rw [if_neg c6] at H
              exact absurd H (by simp)
          · rw [if_neg c4] at H
            exact absurd H (by simp)
        · rw [if_neg c3] at H
          exact absurd H (by simp)
      · rw [if_neg c2] at H
        have c2b0 : decide (x4_1 < (l0.length : Int)) = false := decide_eq_false c2
        clear c2
        by_cases c8 : x3_1.size + 1 ≤ 9223372036854775807
        · rw [if_pos c8] at H
          have c8b0 := eq_true c8
          have c8b1 : decide (x3_1.size + 1 ≤ 9223372036854775807) = true := decide_eq_true c8
          try have c8b2 : (9223372036854775807 < x3_1.size + 1) = False := eq_false (Nat.not_lt.2 c8)
          obtain rfl := Option.some.inj H
          go_wp2
          go_ret
          exact ⟨by first | rfl | (simp [errW_none, errW_some] <;> rfl) | (simp [*, errW_none, errW_some] <;> rfl), by repeat (first | (with_reducible first | exact HB.out | apply below_alloc | apply pw_below_drewN | apply below_drew1) | exact HB.out)⟩
        · rw [if_neg c8] at H
          exact absurd H (by simp)

/-! ### bourneref02_Texts: function 56 -/
def bourneref02_Texts.l0 : Nat → List ByteArray → ByteArray → Int → Option (ByteArray)
  | 0, _, _, _ => none
  | k + 1, x0, x3, x4 => if x4 < (x0.length : Int) then (if x3.size + 1 ≤ 9223372036854775807 then (if 0 ≤ x4 then ((bourneref02_Text.f k (rdOf ByteArray.empty x0 x4)).bind fun t159 => (if (x3 ++ (⟨#[1]⟩ : ByteArray)).size + t159.size ≤ 9223372036854775807 then (bourneref02_Texts.l0 k x0 ((x3 ++ (⟨#[1]⟩ : ByteArray)) ++ t159) (wrap64 (x4 + 1))) else (none))) else (none)) else (none)) else (if x3.size + 1 ≤ 9223372036854775807 then (some (x3 ++ (⟨#[0]⟩ : ByteArray))) else (none))
def bourneref02_Texts.f (k : Nat) (l0 : List ByteArray) : Option (ByteArray) := bourneref02_Texts.l0 k l0 (⟨#[]⟩ : ByteArray) 0
theorem bourneref02_Texts.mono_l : ∀ k, (∀ y0 y1 y2, LeO (bourneref02_Texts.l0 k y0 y1 y2) (bourneref02_Texts.l0 (k + 1) y0 y1 y2))
  | 0 => fun _ _ _ r h => by simp [bourneref02_Texts.l0] at h
  | k + 1 => by
    have ih0 := bourneref02_Texts.mono_l k
    · intro y0 y1 y2
      unfold bourneref02_Texts.l0
      repeat' first
      | (with_reducible exact ih0 _ _ _)
      | (with_reducible exact bourneref02_Text.mono _ _)
      | (with_reducible exact LeO.refl _)
      | (with_reducible exact LeO.none _)
      | (with_reducible refine LeO.ite ?_ ?_)
      | (with_reducible refine LeO.bind ?_ (fun _ => ?_))
      | exact ih0 _ _ _
      | exact bourneref02_Text.mono _ _
      | exact LeO.none _
      | refine LeO.ite ?_ ?_
      | refine LeO.bind ?_ (fun _ => ?_)
theorem bourneref02_Texts.mono : ∀ a0 k, LeO (bourneref02_Texts.f k a0) (bourneref02_Texts.f (k + 1) a0) := by
  intro a0 k
  have ih0 := bourneref02_Texts.mono_l k
  unfold bourneref02_Texts.f
  repeat' first
      | (with_reducible exact ih0 _ _ _)
      | (with_reducible exact bourneref02_Text.mono _ _)
      | (with_reducible exact LeO.refl _)
      | (with_reducible exact LeO.none _)
      | (with_reducible refine LeO.ite ?_ ?_)
      | (with_reducible refine LeO.bind ?_ (fun _ => ?_))
      | exact ih0 _ _ _
      | exact bourneref02_Text.mono _ _
      | exact LeO.none _
      | refine LeO.ite ?_ ?_
      | refine LeO.bind ?_ (fun _ => ?_)
set_option maxHeartbeats 8000000 in
set_option maxRecDepth 100000 in
theorem bourneref02_Texts.calls (k : Nat) (A0 : Option Addr) (c0 : Nat) (l0 : List ByteArray) (r : ByteArray) (w : World) (hr0 : Kd.C Kd.string w A0 l0.length l0) (hc0 : l0.length ≤ c0) (h : bourneref02_Texts.f k l0 = some r) :
    Calls Tryd.prog 56 #[.slice A0 l0.length c0] w fun e w' => e = .returned (.string r) ∧ Below w.heap.size w w' := by
  have HR0 := Aside0.mk hr0
  have HC0 := Aside0.mk hc0
  clear hr0 hc0
  have HB := Aside0.mk (Below.refl w.heap.size w)
  have H : (bourneref02_Texts.l0 k l0 (⟨#[]⟩ : ByteArray) 0) = some r := h
  clear h
  have H' := Aside0.mk H
  clear H
  go_enter Tryd.func56, Tryd.ntmps56
  go_wp2
  go_loopg [3, 4] k (fun kq v3 v4 w' => ∃ (x3_1 : ByteArray) (x4_1 : Int), v3 = .string x3_1 ∧ v4 = .int .i64 x4_1 ∧ Aside0 (bourneref02_Texts.l0 kq l0 x3_1 x4_1 = some r) ∧ Aside0 (kq ≤ k) ∧ Aside0 (Below w.heap.size w w'))
  case atStart => exact ⟨((⟨#[]⟩ : ByteArray)), (0), (by first | rfl | (simp; done) | (simp [*]; done)), (by first | rfl | (simp; done) | (simp [*]; done)), H', ⟨Nat.le_refl _⟩, ⟨by repeat (first | (with_reducible first | exact HB.out | apply below_alloc | apply pw_below_drewN | apply below_drew1) | exact HB.out)⟩⟩
  case round =>
    clear H'
    obtain ⟨x3_1, x4_1, rfl, rfl, HA, HK1, HB⟩ := hrel
    cases gk with
    | zero => exact absurd HA.out (by simp [bourneref02_Texts.l0])
    | succ k1 =>
      have H := HA.out
      clear HA
      simp only [bourneref02_Texts.l0] at H
      by_cases c2 : x4_1 < (l0.length : Int)
      · rw [if_pos c2] at H
        have c2b0 : decide (x4_1 < (l0.length : Int)) = true := decide_eq_true c2
        clear c2
        by_cases c3 : x3_1.size + 1 ≤ 9223372036854775807
        · rw [if_pos c3] at H
          have c3b0 := eq_true c3
          have c3b1 : decide (x3_1.size + 1 ≤ 9223372036854775807) = true := decide_eq_true c3
          try have c3b2 : (9223372036854775807 < x3_1.size + 1) = False := eq_false (Nat.not_lt.2 c3)
          by_cases c4 : 0 ≤ x4_1
          · rw [if_pos c4] at H
            have c4b0 : decide (0 ≤ x4_1) = true := decide_eq_true c4
            clear c4
            replace H := Option.bind_eq_some_iff.mp H
            obtain ⟨t159, A50, H⟩ := H
            replace H : (if (x3_1 ++ (⟨#[1]⟩ : ByteArray)).size + t159.size ≤ 9223372036854775807 then (bourneref02_Texts.l0 k1 l0 ((x3_1 ++ (⟨#[1]⟩ : ByteArray)) ++ t159) (wrap64 (x4_1 + 1))) else (none)) = some r := H
            have A5 := Aside0.mk A50
            clear A50
            by_cases c6 : (x3_1 ++ (⟨#[1]⟩ : ByteArray)).size + t159.size ≤ 9223372036854775807
            · rw [if_pos c6] at H
              have c6b0 := eq_true c6
              have c6n : x3_1.size + 1 + t159.size ≤ 9223372036854775807 := by have h_ := c6; simp only [ByteArray.size_append] at h_; exact h_
              have c6n0 := eq_true c6n
              have c6n1 : (9223372036854775807 < x3_1.size + 1 + t159.size) = False := eq_false (Nat.not_lt.2 c6n)
              have c6b1 : decide ((x3_1 ++ (⟨#[1]⟩ : ByteArray)).size + t159.size ≤ 9223372036854775807) = true := decide_eq_true c6
              try have c6b2 : (9223372036854775807 < (x3_1 ++ (⟨#[1]⟩ : ByteArray)).size + t159.size) = False := eq_false (Nat.not_lt.2 c6)
              have H' := Aside0.mk H
              clear H
              have p158 : 0 ≤ (x4_1 : Int) := of_decide_eq_true (by first | (with_reducible assumption) | assumption)
              have q158 : x4_1 < (l0.length : Int) := of_decide_eq_true (by first | (with_reducible assumption) | assumption)
              obtain ⟨ad158, e158, hx158_0⟩ := Kd.at_string HR0.out x4_1 p158 q158
              cases e158
              replace hx158_0 := (HB.out.cell (World.block_lt_of_cell? w _ hx158_0)).trans hx158_0
              replace p158 := eq_true p158
              replace q158 := eq_true q158
              go_wp2_with (first | ((with_reducible refine gate_callee (f := 52) rfl ?_); refine goesL_ (some 17) rfl rfl Tryd.func52 (by kernel_rfl) rfl #[.string (rdOf ByteArray.empty l0 x4_1)] rfl (by (try simp only [List.map_toArray, List.map_cons, List.map_nil]); first | done | rfl | (simp only [List.length_drop, List.length_take]; rfl)) ?_; (with_reducible refine (bourneref02_Text.calls k1 (rdOf ByteArray.empty l0 x4_1) t159 _ A5.out).mono ?_); rintro e w7 ⟨rfl, hb⟩; refine ⟨_, rfl, ?_⟩; have n0_ := Aside0.mk (below_step (by repeat (first | (with_reducible first | exact HB.out | apply below_alloc | apply pw_below_drewN | apply below_drew1) | exact HB.out)) hb); clear HB; have HB := n0_; clear n0_; (try clear hb); (try clear hb2); (try clear hk); (try clear hi)))
              go_roundg k1
              case measure => have := HK1.out; omega
              case rel => exact ⟨((x3_1 ++ (⟨#[1]⟩ : ByteArray)) ++ t159), (wrap64 (x4_1 + 1)), (by first | rfl | (simp; done) | (simp [*]; done)), (by first | rfl | (simp; done) | (simp [*]; done)), H', ⟨by have := HK1.out; omega⟩, ⟨by repeat (first | (with_reducible first | exact HB.out | apply below_alloc | apply pw_below_drewN | apply below_drew1) | exact HB.out)⟩⟩
            · rw [if_neg c6] at H
              exact absurd H (by simp)
          · rw [if_neg c4] at H
            exact absurd H (by simp)
        · rw [if_neg c3] at H
          exact absurd H (by simp)
      · rw [if_neg c2] at H
        have c2b0 : decide (x4_1 < (l0.length : Int)) = false := decide_eq_false c2
        clear c2
        by_cases c8 : x3_1.size + 1 ≤ 9223372036854775807
        · rw [if_pos c8] at H
          have c8b0 := eq_true c8
          have c8b1 : decide (x3_1.size + 1 ≤ 9223372036854775807) = true := decide_eq_true c8
          try have c8b2 : (9223372036854775807 < x3_1.size + 1) = False := eq_false (Nat.not_lt.2 c8)
          obtain rfl := Option.some.inj H
          go_wp2
          go_ret
          exact ⟨by first | rfl | (simp [errW_none, errW_some] <;> rfl) | (simp [*, errW_none, errW_some] <;> rfl), by repeat (first | (with_reducible first | exact HB.out | apply below_alloc | apply pw_below_drewN | apply below_drew1) | exact HB.out)⟩
        · rw [if_neg c8] at H
          exact absurd H (by simp)

/-- A state of type 119 at block g of W; what its slices lead to came in by w0. -/
def IsS119 (w0 W : World) (g : Nat) (f0 : ByteArray) (f1 : Bool) : Prop := W.heap[g]? = some (.cells #[.string f0, .bool f1] 119 (0, 0)) ∧ w0.heap.size ≤ g
theorem IsS119.grown {w0 W : World} {g : Nat} {f0 : ByteArray} {f1 : Bool} {W1 : World} {row : Option Nat} (h : IsS119 w0 W g f0 f1) (hw : W.grownBy W1 row) (hne : some g ≠ row) : IsS119 w0 W1 g f0 f1 := by
  obtain ⟨hb, hg⟩ := h
  exact ⟨blk_grown hb hw hne, hg⟩
theorem IsS119.fresh {w0 W : World} {g : Nat} {f0 : ByteArray} {f1 : Bool} (h : IsS119 w0 W g f0 f1) : ∀ k, W.heap.size ≤ k → k ≠ g := by
  obtain ⟨hb, hg⟩ := h
  exact Kd.freshB hb
theorem IsS119.kept {w0 W : World} {g : Nat} {f0 : ByteArray} {f1 : Bool} {W1 : World} {S : Nat → Prop} (h : IsS119 w0 W g f0 f1) (hk : Kept W W1 S) (hne : ¬ S g) : IsS119 w0 W1 g f0 f1 := by
  obtain ⟨hb, hg⟩ := h
  exact ⟨blk_kept hb hk hne, hg⟩
theorem IsS119.below {w0 W : World} {g : Nat} {f0 : ByteArray} {f1 : Bool} {W1 : World} (h : IsS119 w0 W g f0 f1) (hw : Below W.heap.size W W1) : IsS119 w0 W1 g f0 f1 := h.grown (grown_of_below hw none) (by simp)
theorem IsS119.alloc {w0 W : World} {g : Nat} {f0 : ByteArray} {f1 : Bool} (h : IsS119 w0 W g f0 f1) (o : Obj) : IsS119 w0 (W.alloc o) g f0 f1 := h.below (below_alloc (Below.refl _ _) o)
theorem IsS119.drewN {w0 W : World} {g : Nat} {f0 : ByteArray} {f1 : Bool} (h : IsS119 w0 W g f0 f1) (m : Nat) : IsS119 w0 (W.drewN m) g f0 f1 := h
theorem IsS119.drew {w0 W : World} {g : Nat} {f0 : ByteArray} {f1 : Bool} (h : IsS119 w0 W g f0 f1) : IsS119 w0 W.drew g f0 f1 := h
theorem IsS119.apart {w0 W : World} {g : Nat} {f0 : ByteArray} {f1 : Bool} {α : Type} {d : Kd α} {e : Nat} {base : Nat} {ok : Nat → Prop} {v : Value} {xs : List α} (h : IsS119 w0 W g f0 f1) (ho : d.R e W base ok v xs) (ht : ∀ q, q ∈ e :: d.E → q ≠ 119) : d.R e W base (fun k => ok k ∧ k ≠ g) v xs := by
  obtain ⟨hb, hg⟩ := h
  exact Kd.R_types ho hb ht
theorem IsS119.lt {w0 W : World} {g : Nat} {f0 : ByteArray} {f1 : Bool} (h : IsS119 w0 W g f0 f1) : g < W.heap.size := by
  obtain ⟨hb, hg⟩ := h
  exact blk_lt hb
theorem IsS119.ge {w0 W : World} {g : Nat} {f0 : ByteArray} {f1 : Bool} (h : IsS119 w0 W g f0 f1) : w0.heap.size ≤ g := by
  obtain ⟨hb, hg⟩ := h
  exact hg
theorem IsS119.far {w0 W : World} {g : Nat} {f0 : ByteArray} {f1 : Bool} {p : Addr} (h : IsS119 w0 W g f0 f1) (hne : g ≠ p.block) (u : Value) : IsS119 w0 (W.setCell p u) g f0 f1 := by
  obtain ⟨hb, hg⟩ := h
  exact ⟨blk_far hb hne u, hg⟩
theorem IsS119.set_0 {w0 W : World} {g : Nat} {f0 : ByteArray} {f1 : Bool} (h : IsS119 w0 W g f0 f1) (x : ByteArray) : IsS119 w0 (W.setCell ⟨g, 0, none⟩ (.string x)) g x f1 := by
  obtain ⟨hb, hg⟩ := h
  exact ⟨by simpa using blk_set hb 0 (.string x), hg⟩
theorem IsS119.set_1 {w0 W : World} {g : Nat} {f0 : ByteArray} {f1 : Bool} (h : IsS119 w0 W g f0 f1) (x : Bool) : IsS119 w0 (W.setCell ⟨g, 1, none⟩ (.bool x)) g f0 x := by
  obtain ⟨hb, hg⟩ := h
  exact ⟨by simpa using blk_set hb 1 (.bool x), hg⟩
theorem IsS119.new (w0 W : World) (f0 : ByteArray) (f1 : Bool) (hB : Below w0.heap.size w0 W) : IsS119 w0 (W.alloc (.cells #[.string f0, .bool f1] 119)) W.heap.size f0 f1 := ⟨by simpa using heap_alloc_new W _, hB.size⟩

/-! ### bourneref02_Reader_fail: function 116 -/
end Go.Proofs.YtdgejkiackeieaaDoor.PWr
end
section
set_option linter.unusedVariables false
set_option linter.unusedSimpArgs false
-- printed by a program of this session's (xprint.py) out of the translation; Lean checks it
namespace Go.Proofs.YtdgejkiackeieaaDoor.PWr
open Go.RowKit Go.Proofs.YtdgejkiackeieaaDoorW.PrintWords Go.Proofs.YtdgejkiackeieaaDoorW.PrintLast Go.Proofs.YtdgejkiackeieaaDoorW.PrintMore
attribute [local go_sem] max2_int min2_int max_two min_two max_three min_three max_four min_four   -- for this text's walks alone
set_option linter.unusedVariables false
set_option linter.unusedSimpArgs false

/-! ### bourneref02_Reader_Text: function 75 -/
/-! ### bourneref02_Reader_More: function 119 -/
/-! ### bourneref02_Reader_Texts: function 81 -/
/-! ### wire_Int: function 41 -/
mutual
def wire_Int.j0 : Nat → Int → Int → Int → Option (ByteArray)
  | 0, _, _, _ => none
  | k + 1, x0, x3, x4 => (wire_size.f x3).bind fun t183 => (if x0 < 0 then (wire_Int.j1 k x3 x4 t183 ((wrap64 (127 - t183)) % 256)) else (wire_Int.j1 k x3 x4 t183 ((wrap64 (128 + t183)) % 256)))
def wire_Int.j1 : Nat → Int → Int → Int → Int → Option (ByteArray)
  | 0, _, _, _, _ => none
  | k + 1, x3, x4, x5, x6 => wire_Int.l0 k x3 x4 (([x6] : List Int)) (wrap64 (x5 - 1))
def wire_Int.l0 : Nat → Int → Int → List Int → Int → Option (ByteArray)
  | 0, _, _, _, _ => none
  | k + 1, x3, x4, x7, x8 => if x8 ≥ 0 then (if 0 ≤ (wrap64 (8 * x8)) then (if x7.length < 140737488355328 then (wire_Int.l0 k x3 x4 (x7 ++ [Go.bits .xor .u8 ((shr .u64 x3 (wrap64 (8 * x8))) % 256) x4]) (wrap64 (x8 - 1))) else (none)) else (none)) else (some (strOfNums x7))
end
def wire_Int.f (k : Nat) (a0 : Int) : Option (ByteArray) := if a0 < 0 then (wire_Int.j0 k a0 (Go.bits .xor .u64 IntKind.u64.max (IntKind.u64.wrap (a0))) 255) else (wire_Int.j0 k a0 (IntKind.u64.wrap (a0)) 0)
theorem wire_Int.mono_l : ∀ k, (∀ y0 y1 y2, LeO (wire_Int.j0 k y0 y1 y2) (wire_Int.j0 (k + 1) y0 y1 y2)) ∧ (∀ y0 y1 y2 y3, LeO (wire_Int.j1 k y0 y1 y2 y3) (wire_Int.j1 (k + 1) y0 y1 y2 y3)) ∧ (∀ y0 y1 y2 y3, LeO (wire_Int.l0 k y0 y1 y2 y3) (wire_Int.l0 (k + 1) y0 y1 y2 y3))
  | 0 => ⟨fun _ _ _ r h => by simp [wire_Int.j0] at h, fun _ _ _ _ r h => by simp [wire_Int.j1] at h, fun _ _ _ _ r h => by simp [wire_Int.l0] at h⟩
  | k + 1 => by
    obtain ⟨ih0, ih1, ih2⟩ := wire_Int.mono_l k
    refine ⟨?_, ?_, ?_⟩
    · intro y0 y1 y2
      unfold wire_Int.j0
      repeat' first
      | (with_reducible exact ih0 _ _ _)
      | (with_reducible exact ih1 _ _ _ _)
      | (with_reducible exact ih2 _ _ _ _)
      | (with_reducible exact LeO.refl _)
      | (with_reducible exact LeO.none _)
      | (with_reducible refine LeO.ite ?_ ?_)
      | (with_reducible refine LeO.bind ?_ (fun _ => ?_))
      | exact ih0 _ _ _
      | exact ih1 _ _ _ _
      | exact ih2 _ _ _ _
      | exact LeO.none _
      | refine LeO.ite ?_ ?_
      | refine LeO.bind ?_ (fun _ => ?_)
    · intro y0 y1 y2 y3
      unfold wire_Int.j1
      repeat' first
      | (with_reducible exact ih0 _ _ _)
      | (with_reducible exact ih1 _ _ _ _)
      | (with_reducible exact ih2 _ _ _ _)
      | (with_reducible exact LeO.refl _)
      | (with_reducible exact LeO.none _)
      | (with_reducible refine LeO.ite ?_ ?_)
      | (with_reducible refine LeO.bind ?_ (fun _ => ?_))
      | exact ih0 _ _ _
      | exact ih1 _ _ _ _
      | exact ih2 _ _ _ _
      | exact LeO.none _
      | refine LeO.ite ?_ ?_
      | refine LeO.bind ?_ (fun _ => ?_)
    · intro y0 y1 y2 y3
      unfold wire_Int.l0
      repeat' first
      | (with_reducible exact ih0 _ _ _)
      | (with_reducible exact ih1 _ _ _ _)
      | (with_reducible exact ih2 _ _ _ _)
      | (with_reducible exact LeO.refl _)
      | (with_reducible exact LeO.none _)
      | (with_reducible refine LeO.ite ?_ ?_)
      | (with_reducible refine LeO.bind ?_ (fun _ => ?_))
      | exact ih0 _ _ _
      | exact ih1 _ _ _ _
      | exact ih2 _ _ _ _
      | exact LeO.none _
      | refine LeO.ite ?_ ?_
      | refine LeO.bind ?_ (fun _ => ?_)
theorem wire_Int.mono : ∀ a0 k, LeO (wire_Int.f k a0) (wire_Int.f (k + 1) a0) := by
  intro a0 k
  obtain ⟨ih0, ih1, ih2⟩ := wire_Int.mono_l k
  unfold wire_Int.f
  repeat' first
      | (with_reducible exact ih0 _ _ _)
      | (with_reducible exact ih1 _ _ _ _)
      | (with_reducible exact ih2 _ _ _ _)
      | (with_reducible exact LeO.refl _)
      | (with_reducible exact LeO.none _)
      | (with_reducible refine LeO.ite ?_ ?_)
      | (with_reducible refine LeO.bind ?_ (fun _ => ?_))
      | exact ih0 _ _ _
      | exact ih1 _ _ _ _
      | exact ih2 _ _ _ _
      | exact LeO.none _
      | refine LeO.ite ?_ ?_
      | refine LeO.bind ?_ (fun _ => ?_)
set_option maxHeartbeats 8000000 in
set_option maxRecDepth 100000 in
theorem wire_Int.calls (k : Nat) (a0 : Int) (r : ByteArray) (w : World) (h : wire_Int.f k a0 = some r) :
    Calls Tryd.prog 41 #[.int .i64 a0] w fun e w' => e = .returned (.string r) ∧ Below w.heap.size w w' := by
  have HB := Aside0.mk (Below.refl w.heap.size w)
  have H : (if a0 < 0 then (wire_Int.j0 k a0 (Go.bits .xor .u64 IntKind.u64.max (IntKind.u64.wrap (a0))) 255) else (wire_Int.j0 k a0 (IntKind.u64.wrap (a0)) 0)) = some r := h
  clear h
  have HC2 := Aside0.mk H
  clear H
  go_enter Tryd.func41, Tryd.ntmps41
  go_upto_if 12 with (fail)
  go_cut [3, 4] (fun v3 v4 wc => ∃ (kq : Nat) (x3_1 : Int) (x4_1 : Int), v3 = .int .u64 x3_1 ∧ v4 = .int .u8 x4_1 ∧ Aside0 (wire_Int.j0 kq a0 x3_1 x4_1 = some r) ∧ Aside0 (kq ≤ k) ∧ Aside0 (Below w.heap.size w wc))
  case first =>
    have H := HC2.out
    clear HC2
    by_cases c3 : a0 < 0
    · rw [if_pos c3] at H
      have c3b0 : decide (a0 < 0) = true := decide_eq_true c3
      clear c3
      (first | rw [c3b0] | (simp only [i64_w, i32_w]; rw [c3b0]) | skip)
      have H' := Aside0.mk H
      clear H
      go_wp2
      go_meet
      case rel => exact ⟨_, (Go.bits .xor .u64 IntKind.u64.max (IntKind.u64.wrap (a0))), (255), (by first | rfl | (simp; done) | (simp [*]; done)), (by first | rfl | (simp; done) | (simp [*]; done)), H', ⟨by first | omega | exact Nat.le_refl _⟩, ⟨by repeat (first | (with_reducible first | exact HB.out | apply below_alloc | apply pw_below_drewN | apply below_drew1) | exact HB.out)⟩⟩
    · rw [if_neg c3] at H
      have c3b0 : decide (a0 < 0) = false := decide_eq_false c3
      clear c3
      (first | rw [c3b0] | (simp only [i64_w, i32_w]; rw [c3b0]) | skip)
      have H' := Aside0.mk H
      clear H
      go_wp2
      go_meet
      case rel => exact ⟨_, (IntKind.u64.wrap (a0)), (0), (by first | rfl | (simp; done) | (simp [*]; done)), (by first | rfl | (simp; done) | (simp [*]; done)), H', ⟨by first | omega | exact Nat.le_refl _⟩, ⟨by repeat (first | (with_reducible first | exact HB.out | apply below_alloc | apply pw_below_drewN | apply below_drew1) | exact HB.out)⟩⟩
  case rest =>
    clear HC2
    try clear p2
    try clear c3
    try clear c3b0
    obtain ⟨kq, x3_1, x4_1, rfl, rfl, HA, HJ1, HB⟩ := hcut
    cases kq with
    | zero => exact absurd HA.out (by simp [wire_Int.j0])
    | succ kj1 =>
      have H := HA.out
      clear HA
      simp only [wire_Int.j0] at H
      replace H := Option.bind_eq_some_iff.mp H
      obtain ⟨t183, A40, H⟩ := H
      replace H : (if a0 < 0 then (wire_Int.j1 kj1 x3_1 x4_1 t183 ((wrap64 (127 - t183)) % 256)) else (wire_Int.j1 kj1 x3_1 x4_1 t183 ((wrap64 (128 + t183)) % 256))) = some r := H
      have A4 := Aside0.mk A40
      clear A40
      have HC5 := Aside0.mk H
      clear H
      go_upto_if 21 with (first | ((with_reducible refine gate_callee (f := 102) rfl ?_); refine goesL_ (some 16) rfl rfl Tryd.func102 (by kernel_rfl) rfl #[.int .u64 x3_1] rfl (by (try simp only [List.map_toArray, List.map_cons, List.map_nil]); first | done | rfl | (simp only [List.length_drop, List.length_take]; rfl)) ?_; (with_reducible refine (wire_size.calls x3_1 t183 _ A4.out).mono ?_); rintro e w' ⟨rfl, ⟨nd, rfl⟩⟩; refine ⟨_, rfl, ?_⟩))
      (try simp only [Act.put, List.setIfInBounds_toArray, List.set_cons_zero, List.set_cons_succ])
      go_cut [6] (fun v6 wc => ∃ (kq : Nat) (x6_4 : Int), v6 = .int .u8 x6_4 ∧ Aside0 (wire_Int.j1 kq x3_1 x4_1 t183 x6_4 = some r) ∧ Aside0 (kq ≤ kj1) ∧ Aside0 (Below w.heap.size w wc))
      case first =>
        have H := HC5.out
        clear HC5
        by_cases c6 : a0 < 0
        · rw [if_pos c6] at H
          have c6b0 : decide (a0 < 0) = true := decide_eq_true c6
          clear c6
          (first | rw [c6b0] | (simp only [i64_w, i32_w]; rw [c6b0]) | skip)
          have H' := Aside0.mk H
          clear H
          go_wp2
          go_meet
          case rel => exact ⟨_, ((wrap64 (127 - t183)) % 256), (by first | rfl | (simp; done) | (simp [*]; done)), H', ⟨by have := HJ1.out; first | omega | exact Nat.le_refl _⟩, ⟨by repeat (first | (with_reducible first | exact HB.out | apply below_alloc | apply pw_below_drewN | apply below_drew1) | exact HB.out)⟩⟩
        · rw [if_neg c6] at H
          have c6b0 : decide (a0 < 0) = false := decide_eq_false c6
          clear c6
          (first | rw [c6b0] | (simp only [i64_w, i32_w]; rw [c6b0]) | skip)
          have H' := Aside0.mk H
          clear H
          go_wp2
          go_meet
          case rel => exact ⟨_, ((wrap64 (128 + t183)) % 256), (by first | rfl | (simp; done) | (simp [*]; done)), H', ⟨by have := HJ1.out; first | omega | exact Nat.le_refl _⟩, ⟨by repeat (first | (with_reducible first | exact HB.out | apply below_alloc | apply pw_below_drewN | apply below_drew1) | exact HB.out)⟩⟩
      case rest =>
        clear HC5
        try clear c1
        try clear p2
        try clear c3
        try clear c3b0
        try clear c4
        try clear c6
        try clear c6b0
        try clear p6
        try clear p2
        obtain ⟨kq, x6_4, rfl, HA, HJ4, HB⟩ := hcut
        cases kq with
        | zero => exact absurd HA.out (by simp [wire_Int.j1])
        | succ kj4 =>
          have H := HA.out
          clear HA
          simp only [wire_Int.j1] at H
          obtain ⟨y184, hy184⟩ : ∃ y_ : List Int, y_ = (([x6_4] : List Int)) := ⟨_, rfl⟩
          replace H : (wire_Int.l0 kj4 x3_1 x4_1 y184 (wrap64 (t183 - 1))) = some r := by first | (rw [hy184]; with_reducible exact H) | (have H2_ := (Option.bind_some _ _).symm.trans H; rw [hy184]; with_reducible exact H2_) | (have H2_ := (Option.bind_some _ _).symm.trans H; with_reducible exact H2_) | with_reducible exact H | (rw [hy184]; exact H) | exact H
          have Ny184 := Aside0.mk hy184
          clear hy184
          have H' := Aside0.mk H
          clear H
          go_wp2_with (first | ((with_reducible refine gate_dst (N := 26) rfl ?_); refine Kd.R_lit (Kd.int .u8) _ 5 ?hg (N := 26) ?hd (xs := ([x6_4] : List Int)) (inner := [.int .u8 x6_4]) (ok := fun _ => True) (okp := fun _ => True) ?hr ?hp (fun _ hk => hk) trivial (Below.refl _ _) (Nat.le_refl _) (by simp) ?_; (case hd => rfl); (case hg => rfl); (case hr => first | (go_simp; done) | (go_simp; rfl)); (case hp => exact (Reps.one (show Kd.M (Kd.int .u8) _ _ _ x6_4 [.int .u8 x6_4] from rfl) (Reps.none _ _))); intro v185 w7 ho8 hb hg_ hnew_; clear hg_ hnew_; (first | rw [← Ny184.out] at ho8 | (simp only [Int.reduceToNat] at ho8; rw [← Ny184.out] at ho8)); have n0_ := Aside0.mk (Kd.R_lower ho8 (below_size (by repeat (first | (with_reducible first | exact HB.out | apply below_alloc | apply pw_below_drewN | apply below_drew1) | exact HB.out)))); have n1_ := Aside0.mk (below_step (by repeat (first | (with_reducible first | exact HB.out | apply below_alloc | apply pw_below_drewN | apply below_drew1) | exact HB.out)) hb); clear HB; have HO186 := n0_; have HB := n1_; clear n0_ n1_; clear hb ho8))
          go_loopg [7, 8] kj4 (fun kq v7 v8 w' => ∃ (x7_3 : List Int) (x8_3 : Int), v8 = .int .i64 x8_3 ∧ Aside0 (wire_Int.l0 kq x3_1 x4_1 x7_3 x8_3 = some r) ∧ Aside0 (kq ≤ kj4) ∧ Aside0 (Kd.R (Kd.int .u8) 5 w' w.heap.size (fun _ => True) v7 x7_3) ∧ Aside0 (Below w.heap.size w w'))
          case atStart => exact ⟨(y184), (wrap64 (t183 - 1)), (by first | rfl | (simp; done) | (simp [*]; done)), H', ⟨Nat.le_refl _⟩, ⟨by (with_reducible repeat (first | apply Kd.R_alloc | apply Kd.R_drewN | apply Kd.R_drew)); exact HO186.out⟩, ⟨by repeat (first | (with_reducible first | exact HB.out | apply below_alloc | apply pw_below_drewN | apply below_drew1) | exact HB.out)⟩⟩
          case round =>
            clear H'
            try clear c1
            try clear p2
            try clear c3
            try clear c3b0
            try clear c4
            try clear c6
            try clear c6b0
            try clear p6
            try clear p2
            try clear p6
            obtain ⟨x7_3, x8_3, rfl, HA, HK3, HO_7, HB⟩ := hrel
            cases gk with
            | zero => exact absurd HA.out (by simp [wire_Int.l0])
            | succ k3 =>
              have H := HA.out
              clear HA
              simp only [wire_Int.l0] at H
              by_cases c9 : x8_3 ≥ 0
              · rw [if_pos c9] at H
                have c9b0 : decide (0 ≤ x8_3) = true := decide_eq_true c9
                clear c9
                obtain ⟨ji10, hji10⟩ : ∃ j_ : Int, (wrap64 (8 * x8_3)) = j_ := ⟨_, rfl⟩
                replace H : (if 0 ≤ (ji10) then (if x7_3.length < 140737488355328 then (wire_Int.l0 k3 x3_1 x4_1 (x7_3 ++ [Go.bits .xor .u8 ((shr .u64 x3_1 (ji10)) % 256) x4_1]) (wrap64 (x8_3 - 1))) else (none)) else (none)) = some r := by first | (rw [hji10] at H; exact H) | (simp only [hji10] at H ⊢; exact H)
                have hji10w : (IntKind.i64.wrap (8 * x8_3)) = ji10 := (i64_w _).trans hji10
                by_cases c11 : 0 ≤ (ji10)
                · rw [if_pos c11] at H
                  have c11b0 := eq_true c11
                  have c11b1 : decide (0 ≤ (ji10)) = true := decide_eq_true c11
                  clear c11
                  obtain ⟨ji12, hji12⟩ : ∃ j_ : Int, (shr .u64 x3_1 (ji10)) = j_ := ⟨_, rfl⟩
                  replace H : (if x7_3.length < 140737488355328 then (wire_Int.l0 k3 x3_1 x4_1 (x7_3 ++ [Go.bits .xor .u8 ((ji12) % 256) x4_1]) (wrap64 (x8_3 - 1))) else (none)) = some r := by first | (rw [hji12] at H; exact H) | (simp only [hji12] at H ⊢; exact H)
                  have hji12_ : (x3_1 / 2 ^ min (ji10).toNat 64) = ji12 := hji12
                  have hji12z : (ji10) ≤ 64 → (x3_1 / 2 ^ (ji10).toNat) = ji12 := shr_small hji12
                  by_cases c13 : x7_3.length < 140737488355328
                  · rw [if_pos c13] at H
                    have LMc13 := Aside0.mk c13
                    clear c13
                    obtain ⟨y187, hy187⟩ : ∃ y_ : List Int, y_ = (x7_3 ++ [Go.bits .xor .u8 ((ji12) % 256) x4_1]) := ⟨_, rfl⟩
                    replace H : (wire_Int.l0 k3 x3_1 x4_1 y187 (wrap64 (x8_3 - 1))) = some r := by first | (rw [hy187]; with_reducible exact H) | (have H2_ := (Option.bind_some _ _).symm.trans H; rw [hy187]; with_reducible exact H2_) | (have H2_ := (Option.bind_some _ _).symm.trans H; with_reducible exact H2_) | with_reducible exact H | (rw [hy187]; exact H) | exact H
                    have Ny187 := Aside0.mk hy187
                    clear hy187
                    have H' := Aside0.mk H
                    clear H
                    go_wp2_with (first | ((with_reducible refine gate_builtin (b := .append) (xs := #[.tmp 33, .tmp 41]) rfl ?_); at_builtin; refine Kd.R_append (Kd.int .u8) (w0 := w) w.heap.size rfl (.tmp 33) (.tmp 41) 30 5 (.int .u8 0) 1 rfl Tryd.underlying30 info5 rfl (by decide) (by omega) u7 x7_3 (Go.bits .xor .u8 ((ji12) % 256) x4_1) [.int .u8 (Go.bits .xor .u8 ((ji12) % 256) x4_1)] (fun _ => True) (fun _ => False) rfl rfl ?aP (fun _ hk => hk.elim) ?aF ?aO ?aB ?aS ?aL ?_; (case aP => exact rfl); (case aB => exact (by repeat (first | (with_reducible first | exact HB.out | apply below_alloc | apply pw_below_drewN | apply below_drew1) | exact HB.out))); (case aF => exact (fun _ _ => trivial)); (case aO => exact (by (with_reducible repeat (first | apply Kd.R_alloc | apply Kd.R_drewN | apply Kd.R_drew)); exact HO_7.out)); (case aS => exact (below_size (by repeat (first | (with_reducible first | exact HB.out | apply below_alloc | apply pw_below_drewN | apply below_drew1) | exact HB.out)))); (case aL => have := LMc13.out; omega); intro v188 w14 ho hb hg hat; rw [← Ny187.out] at ho; have n0_ := Aside0.mk (hb); have n1_ := Aside0.mk (ho); clear HB; clear HO_7; have HB := n0_; have HO189 := n1_; clear n0_ n1_; clear ho hb hg hat))
                    go_roundg k3
                    case measure => have := HJ1.out; have := HJ4.out; have := HK3.out; omega
                    case rel => exact ⟨(y187), (wrap64 (x8_3 - 1)), (by first | rfl | (simp; done) | (simp [*]; done)), H', ⟨by have := HJ1.out; have := HJ4.out; have := HK3.out; omega⟩, ⟨by (with_reducible repeat (first | apply Kd.R_alloc | apply Kd.R_drewN | apply Kd.R_drew)); exact HO189.out⟩, ⟨by repeat (first | (with_reducible first | exact HB.out | apply below_alloc | apply pw_below_drewN | apply below_drew1) | exact HB.out)⟩⟩
                  · rw [if_neg c13] at H
                    exact absurd H (by simp)
                · rw [if_neg c11] at H
                  exact absurd H (by simp)
              · rw [if_neg c9] at H
                have c9b0 : decide (0 ≤ x8_3) = false := decide_eq_false c9
                clear c9
                obtain rfl := Option.some.inj H
                have hcv15 := own_string (P := Tryd.prog) Tryd.underlying30 Tryd.underlying5 Tryd.underlying9 (Kd.own_of_R HO_7.out)
                go_wp2
                go_ret
                exact ⟨by first | rfl | (simp [errW_none, errW_some] <;> rfl) | (simp [*, errW_none, errW_some] <;> rfl), by repeat (first | (with_reducible first | exact HB.out | apply below_alloc | apply pw_below_drewN | apply below_drew1) | exact HB.out)⟩

/-! ### wire_Num: function 50 -/
end Go.Proofs.YtdgejkiackeieaaDoor.PWr
end
section
set_option linter.unusedVariables false
set_option linter.unusedSimpArgs false
/- The encoding of layer 2 in plain words: numbers, strings and lists as bytes, and how they are read back. No program in sight. -/
set_option linter.unusedVariables false
set_option linter.unusedSimpArgs false
namespace Go.Proofs.YtdgejkiackeieaaDoor.Wr
/-! ### the bytes of a number -/
def mlenF : Nat → Nat → Nat
  | 0, _ => 0
  | f + 1, m => if m = 0 then 0 else mlenF f (m / 256) + 1
/-- How many bytes a number below 256^8 has. -/
def mlen (m : Nat) : Nat := mlenF 8 m
theorem mlenF_spec (f : Nat) : ∀ m, m < 256 ^ f → m < 256 ^ mlenF f m ∧ ∀ k, m < 256 ^ k → mlenF f m ≤ k := by
  induction f with
  | zero => intro m h; exact ⟨h, fun k _ => Nat.zero_le _⟩
  | succ f ih =>
    intro m h
    rw [mlenF]
    by_cases hm : m = 0
    · rw [if_pos hm, hm]; exact ⟨by decide, fun k _ => Nat.zero_le _⟩
    · rw [if_neg hm]
      have h1 : m / 256 < 256 ^ f := by rw [Nat.pow_succ] at h; omega
      obtain ⟨a, b⟩ := ih (m / 256) h1
      refine ⟨by rw [Nat.pow_succ]; omega, fun k hk => ?_⟩
      cases k with
      | zero => exfalso; rw [Nat.pow_zero] at hk; omega
      | succ k =>
        have := b k (by rw [Nat.pow_succ] at hk; omega)
        omega
theorem mlen_lt {m : Nat} (h : m < 256 ^ 8) : m < 256 ^ mlen m := (mlenF_spec 8 m h).1
theorem mlen_le {m k : Nat} (h : m < 256 ^ 8) (hk : m < 256 ^ k) : mlen m ≤ k := (mlenF_spec 8 m h).2 k hk
theorem mlen_le8 {m : Nat} (h : m < 256 ^ 8) : mlen m ≤ 8 := mlen_le h h
theorem mlen_mono {a b : Nat} (h : a ≤ b) (hb : b < 256 ^ 8) : mlen a ≤ mlen b := mlen_le (Nat.lt_of_le_of_lt h hb) (Nat.lt_of_le_of_lt h (mlen_lt hb))
/-- The last k bytes of a number, the greatest first. -/
def beR : Nat → Nat → List UInt8
  | 0, _ => []
  | k + 1, m => UInt8.ofNat (m / 256 ^ k % 256) :: beR k m
theorem beR_length (k m : Nat) : (beR k m).length = k := by induction k with | zero => rfl | succ k ih => simp [beR, ih]
/-- The number of bytes, the greatest first. -/
def beV (l : List UInt8) : Nat := l.foldl (fun n c => n * 256 + c.toNat) 0
theorem foldl_be (l : List UInt8) : ∀ n, l.foldl (fun n c => n * 256 + c.toNat) n = n * 256 ^ l.length + beV l := by
  induction l with
  | nil => intro n; simp [beV]
  | cons c l ih =>
    intro n
    simp only [List.foldl_cons, List.length_cons, beV]
    rw [ih, ih (0 * 256 + c.toNat), Nat.pow_succ, Nat.zero_mul, Nat.zero_add, Nat.add_mul]
    have : n * 256 * 256 ^ l.length = n * (256 ^ l.length * 256) := by rw [Nat.mul_assoc, Nat.mul_comm 256]
    omega
theorem beV_cons (c : UInt8) (l : List UInt8) : beV (c :: l) = c.toNat * 256 ^ l.length + beV l := by
  show List.foldl _ _ _ = _
  rw [List.foldl_cons, foldl_be, Nat.zero_mul, Nat.zero_add]
theorem beV_snoc (l : List UInt8) (c : UInt8) : beV (l ++ [c]) = beV l * 256 + c.toNat := by simp [beV]
theorem beV_lt (l : List UInt8) : beV l < 256 ^ l.length := by
  induction l with
  | nil => decide
  | cons c l ih =>
    have hc := c.toNat_lt
    have h1 : (c.toNat + 1) * 256 ^ l.length ≤ 256 * 256 ^ l.length := Nat.mul_le_mul_right _ (by omega)
    rw [Nat.add_mul, Nat.one_mul] at h1
    rw [beV_cons, List.length_cons, Nat.pow_succ, Nat.mul_comm (256 ^ l.length)]
    omega
theorem beV_beR (k m : Nat) : beV (beR k m) = m % 256 ^ k := by
  induction k with
  | zero => rw [Nat.pow_zero, Nat.mod_one]; rfl
  | succ k ih =>
    rw [beR, beV_cons, beR_length, ih, UInt8.toNat_ofNat', Nat.mod_eq_of_lt (Nat.mod_lt _ (by decide)), Nat.pow_succ, Nat.mod_mul, Nat.mul_comm, Nat.add_comm]
theorem beR_high (k : Nat) : ∀ n a v, k ≤ n → beR k (a * 256 ^ n + v) = beR k v := by
  induction k with
  | zero => intro n a v _; rfl
  | succ k ih =>
    intro n a v h
    rw [beR, beR, ih n a v (by omega)]
    congr 2
    obtain ⟨d, rfl⟩ : ∃ d, n = k + 1 + d := ⟨n - (k + 1), by omega⟩
    have e : a * 256 ^ (k + 1 + d) + v = v + 256 ^ k * (256 * (a * 256 ^ d)) := by
      rw [Nat.pow_add, Nat.pow_succ, Nat.add_comm v]
      congr 1
      rw [Nat.mul_comm a, Nat.mul_assoc, Nat.mul_assoc, Nat.mul_comm (256 ^ d)]
    rw [e, Nat.add_mul_div_left _ _ (Nat.pow_pos (by decide)), Nat.add_mul_mod_self_left]
theorem beR_beV (l : List UInt8) : beR l.length (beV l) = l := by
  induction l with
  | nil => rfl
  | cons c l ih =>
    rw [List.length_cons, beR, beV_cons, beR_high l.length l.length c.toNat (beV l) (Nat.le_refl _), ih]
    congr 1
    rw [Nat.mul_comm, Nat.mul_add_div (Nat.pow_pos (by decide)), Nat.div_eq_of_lt (beV_lt l), Nat.add_zero, Nat.mod_eq_of_lt c.toNat_lt, UInt8.ofNat_toNat]
theorem beR_snoc (k m : Nat) : beR (k + 1) m = beR k (m / 256) ++ [UInt8.ofNat (m % 256)] := by
  induction k with
  | zero => simp [beR]
  | succ k ih =>
    rw [beR, ih, beR, List.cons_append]
    congr 2
    rw [Nat.pow_succ, Nat.mul_comm, ← Nat.div_div_eq_div_mul]
/-- A byte's complement. -/
def inv (c : UInt8) : UInt8 := UInt8.ofNat (255 - c.toNat)
theorem inv_toNat (c : UInt8) : (inv c).toNat = 255 - c.toNat := by
  unfold inv; rw [UInt8.toNat_ofNat', Nat.mod_eq_of_lt (by omega)]
theorem inv_inv (c : UInt8) : inv (inv c) = c := by
  have hc := c.toNat_lt
  unfold inv
  rw [UInt8.toNat_ofNat', Nat.mod_eq_of_lt (by omega), show 255 - (255 - c.toNat) = c.toNat by omega, UInt8.ofNat_toNat]
theorem map_inv_inv (l : List UInt8) : (l.map inv).map inv = l := by
  rw [List.map_map]
  conv => rhs; rw [← List.map_id l]
  exact List.map_congr_left (fun c _ => inv_inv c)
/-! ### integers -/
/-- An integer's bytes. -/
def intB (n : Int) : List UInt8 :=
  if 0 ≤ n then UInt8.ofNat (128 + mlen n.toNat) :: beR (mlen n.toNat) n.toNat
  else UInt8.ofNat (127 - mlen (-1 - n).toNat) :: (beR (mlen (-1 - n).toNat) (-1 - n).toNat).map inv
theorem intB_pos (m : Nat) : intB (m : Int) = UInt8.ofNat (128 + mlen m) :: beR (mlen m) m := by
  unfold intB; rw [if_pos (by omega), Int.toNat_natCast]
theorem intB_neg (m : Nat) : intB (-1 - (m : Int)) = UInt8.ofNat (127 - mlen m) :: (beR (mlen m) m).map inv := by
  unfold intB; rw [if_neg (by omega), show (-1 - (-1 - (m : Int))).toNat = m by omega]
/-- Where an int's range ends. -/
def InR (n : Int) : Prop := -9223372036854775808 ≤ n ∧ n ≤ 9223372036854775807
/-- Reading an integer: the number and what is left. -/
def intR : List UInt8 → Option (Int × List UInt8)
  | [] => none
  | c :: t =>
    if c.toNat < 128 then
      if 127 - c.toNat > 8 ∨ 127 - c.toNat > t.length then none
      else if mlen (beV ((t.take (127 - c.toNat)).map inv)) ≠ 127 - c.toNat ∨ 9223372036854775808 ≤ beV ((t.take (127 - c.toNat)).map inv) then none
      else some (-1 - (beV ((t.take (127 - c.toNat)).map inv) : Int), t.drop (127 - c.toNat))
    else
      if c.toNat - 128 > 8 ∨ c.toNat - 128 > t.length then none
      else if mlen (beV (t.take (c.toNat - 128))) ≠ c.toNat - 128 ∨ 9223372036854775808 ≤ beV (t.take (c.toNat - 128)) then none
      else some ((beV (t.take (c.toNat - 128)) : Int), t.drop (c.toNat - 128))
theorem pow8 {m : Nat} (h : m < 9223372036854775808) : m < 256 ^ 8 := Nat.lt_trans h (by decide)
theorem intR_pos (m : Nat) (hm : m < 9223372036854775808) (r : List UInt8) : intR (intB (m : Int) ++ r) = some ((m : Int), r) := by
  have h8 := mlen_le8 (pow8 hm)
  have hc : (UInt8.ofNat (128 + mlen m)).toNat = 128 + mlen m := by rw [UInt8.toNat_ofNat', Nat.mod_eq_of_lt (by omega)]
  have hv : beV (beR (mlen m) m) = m := by rw [beV_beR, Nat.mod_eq_of_lt (mlen_lt (pow8 hm))]
  have ht : (beR (mlen m) m ++ r).take (mlen m) = beR (mlen m) m := by rw [List.take_append_of_le_length (by rw [beR_length]; exact Nat.le_refl _), List.take_of_length_le (by rw [beR_length]; exact Nat.le_refl _)]
  have hd : (beR (mlen m) m ++ r).drop (mlen m) = r := by rw [List.drop_append_of_le_length (by rw [beR_length]; exact Nat.le_refl _), List.drop_of_length_le (by rw [beR_length]; exact Nat.le_refl _), List.nil_append]
  rw [intB_pos, List.cons_append, intR, hc, if_neg (by omega), show 128 + mlen m - 128 = mlen m by omega, if_neg (by rw [List.length_append, beR_length]; omega), ht, hv, if_neg (by omega), hd]
theorem intR_neg (m : Nat) (hm : m < 9223372036854775808) (r : List UInt8) : intR (intB (-1 - (m : Int)) ++ r) = some (-1 - (m : Int), r) := by
  have h8 := mlen_le8 (pow8 hm)
  have hc : (UInt8.ofNat (127 - mlen m)).toNat = 127 - mlen m := by rw [UInt8.toNat_ofNat', Nat.mod_eq_of_lt (by omega)]
  have hv : beV (beR (mlen m) m) = m := by rw [beV_beR, Nat.mod_eq_of_lt (mlen_lt (pow8 hm))]
  have hl : ((beR (mlen m) m).map inv).length = mlen m := by rw [List.length_map, beR_length]
  have ht : ((beR (mlen m) m).map inv ++ r).take (mlen m) = (beR (mlen m) m).map inv := by rw [List.take_append_of_le_length (by omega), List.take_of_length_le (by omega)]
  have hd : ((beR (mlen m) m).map inv ++ r).drop (mlen m) = r := by rw [List.drop_append_of_le_length (by omega), List.drop_of_length_le (by omega), List.nil_append]
  rw [intB_neg, List.cons_append, intR, hc, if_pos (by omega), show 127 - (127 - mlen m) = mlen m by omega, if_neg (by rw [List.length_append, hl]; omega), ht, map_inv_inv, hv, if_neg (by omega), hd]
/-- Reading inverts writing. -/
theorem intR_intB (n : Int) (h : InR n) (r : List UInt8) : intR (intB n ++ r) = some (n, r) := by
  obtain ⟨h1, h2⟩ := h
  by_cases hn : 0 ≤ n
  · obtain ⟨m, rfl⟩ := Int.eq_ofNat_of_zero_le hn
    exact intR_pos m (by omega) r
  · obtain ⟨m, hm⟩ : ∃ m : Nat, n = -1 - (m : Int) := ⟨(-1 - n).toNat, by omega⟩
    subst hm
    exact intR_neg m (by omega) r
/-- What is read is what was written. -/
theorem intB_intR (l : List UInt8) (n : Int) (r : List UInt8) (h : intR l = some (n, r)) : l = intB n ++ r ∧ InR n := by
  cases l with
  | nil => cases h
  | cons c t =>
    have hc := c.toNat_lt
    rw [intR] at h
    by_cases hneg : c.toNat < 128
    · rw [if_pos hneg] at h
      by_cases h1 : 127 - c.toNat > 8 ∨ 127 - c.toNat > t.length
      · rw [if_pos h1] at h; cases h
      rw [if_neg h1] at h
      by_cases h2 : mlen (beV ((t.take (127 - c.toNat)).map inv)) ≠ 127 - c.toNat ∨ 9223372036854775808 ≤ beV ((t.take (127 - c.toNat)).map inv)
      · rw [if_pos h2] at h; cases h
      rw [if_neg h2] at h
      simp only [Option.some.injEq, Prod.mk.injEq] at h
      obtain ⟨rfl, rfl⟩ := h
      have hk : mlen (beV ((t.take (127 - c.toNat)).map inv)) = 127 - c.toNat := by omega
      have hl : ((t.take (127 - c.toNat)).map inv).length = 127 - c.toNat := by rw [List.length_map, List.length_take]; omega
      refine ⟨?_, by unfold InR; omega⟩
      rw [intB_neg, hk, show 127 - (127 - c.toNat) = c.toNat by omega, UInt8.ofNat_toNat, List.cons_append]
      have hb := beR_beV ((t.take (127 - c.toNat)).map inv)
      rw [hl] at hb
      rw [hb, map_inv_inv, List.take_append_drop]
    · rw [if_neg hneg] at h
      by_cases h1 : c.toNat - 128 > 8 ∨ c.toNat - 128 > t.length
      · rw [if_pos h1] at h; cases h
      rw [if_neg h1] at h
      by_cases h2 : mlen (beV (t.take (c.toNat - 128))) ≠ c.toNat - 128 ∨ 9223372036854775808 ≤ beV (t.take (c.toNat - 128))
      · rw [if_pos h2] at h; cases h
      rw [if_neg h2] at h
      simp only [Option.some.injEq, Prod.mk.injEq] at h
      obtain ⟨rfl, rfl⟩ := h
      have hk : mlen (beV (t.take (c.toNat - 128))) = c.toNat - 128 := by omega
      have hl : (t.take (c.toNat - 128)).length = c.toNat - 128 := by rw [List.length_take]; omega
      refine ⟨?_, by unfold InR; omega⟩
      rw [intB_pos, hk, show 128 + (c.toNat - 128) = c.toNat by omega, UInt8.ofNat_toNat, List.cons_append]
      have hb := beR_beV (t.take (c.toNat - 128))
      rw [hl] at hb
      rw [hb, List.take_append_drop]
theorem intB_length (n : Int) (h : InR n) : (intB n).length ≤ 9 := by
  obtain ⟨h1, h2⟩ := h
  unfold intB
  split
  · have := mlen_le8 (m := n.toNat) (pow8 (by omega))
    simp [beR_length]; omega
  · have := mlen_le8 (m := (-1 - n).toNat) (pow8 (by omega))
    simp [beR_length]; omega
theorem intR_length (l : List UInt8) (n : Int) (r : List UInt8) (h : intR l = some (n, r)) : r.length < l.length := by
  obtain ⟨e, _⟩ := intB_intR l n r h
  have : 0 < (intB n).length := by unfold intB; split <;> simp
  rw [e, List.length_append]; omega
/-! ### strings -/
def textB (l : List UInt8) : List UInt8 := (l.flatMap fun c => if c = 0 then [0, 255] else [c]) ++ [0, 1]
def textR : List UInt8 → Option (List UInt8 × List UInt8)
  | [] => none
  | [_] => none
  | c :: d :: l => if c = 0 then (if d = 255 then (textR l).map (fun p => (0 :: p.1, p.2)) else if d = 1 then some ([], l) else none) else (textR (d :: l)).map (fun p => (c :: p.1, p.2))
theorem textB_cons (c : UInt8) (l : List UInt8) : textB (c :: l) = (if c = 0 then [0, 255] else [c]) ++ textB l := by simp [textB]
theorem textB_nil : textB [] = [0, 1] := rfl
theorem textR_ne (c : UInt8) (h : c ≠ 0) (l : List UInt8) : textR (c :: l) = (textR l).map (fun p => (c :: p.1, p.2)) := by
  cases l with
  | nil => rfl
  | cons d l => rw [textR, if_neg h]
theorem textR_textB (l r : List UInt8) : textR (textB l ++ r) = some (l, r) := by
  induction l with
  | nil => rfl
  | cons c l ih =>
    rw [textB_cons]
    by_cases h : c = 0
    · rw [if_pos h, h]
      show textR (0 :: 255 :: (textB l ++ r)) = _
      rw [textR, if_pos rfl, if_pos rfl, ih]; rfl
    · rw [if_neg h]
      show textR (c :: (textB l ++ r)) = _
      rw [textR_ne c h, ih]; rfl
theorem textB_textR : ∀ (l s r : List UInt8), textR l = some (s, r) → l = textB s ++ r
  | [], s, r, h => by cases h
  | [_], s, r, h => by cases h
  | c :: d :: l, s, r, h => by
    rw [textR] at h
    by_cases hc : c = 0
    · rw [if_pos hc] at h
      by_cases hd : d = 255
      · rw [if_pos hd] at h
        obtain ⟨⟨s', r'⟩, h1, h2⟩ := Option.map_eq_some_iff.1 h
        simp only [Prod.mk.injEq] at h2
        obtain ⟨rfl, rfl⟩ := h2
        rw [textB_textR l s' r' h1, textB_cons, if_pos rfl, hc, hd]; rfl
      · rw [if_neg hd] at h
        by_cases hd1 : d = 1
        · rw [if_pos hd1] at h
          simp only [Option.some.injEq, Prod.mk.injEq] at h
          obtain ⟨rfl, rfl⟩ := h
          rw [hc, hd1]; rfl
        · rw [if_neg hd1] at h; cases h
    · rw [if_neg hc] at h
      obtain ⟨⟨s', r'⟩, h1, h2⟩ := Option.map_eq_some_iff.1 h
      simp only [Prod.mk.injEq] at h2
      obtain ⟨rfl, rfl⟩ := h2
      rw [textB_textR (d :: l) s' r' h1, textB_cons, if_neg hc]; rfl
theorem textB_length (l : List UInt8) : 2 ≤ (textB l).length ∧ (textB l).length ≤ 2 * l.length + 2 := by
  induction l with
  | nil => decide
  | cons c l ih => rw [textB_cons, List.length_append]; split <;> simp only [List.length_cons, List.length_nil] <;> omega
theorem textR_length (l s r : List UInt8) (h : textR l = some (s, r)) : r.length + 2 ≤ l.length ∧ s.length ≤ l.length := by
  have e := textB_textR l s r h
  have hs : s.length + 2 ≤ (textB s).length := by
    clear h e
    induction s with
    | nil => decide
    | cons c s ih => rw [textB_cons, List.length_append]; split <;> simp only [List.length_cons, List.length_nil] <;> omega
  rw [e, List.length_append]; omega
/-! ### lists -/
def listB {α : Type} (enc : α → List UInt8) (l : List α) : List UInt8 := (l.flatMap fun x => 1 :: enc x) ++ [0]
def listR {α : Type} (one : List UInt8 → Option (α × List UInt8)) : Nat → List UInt8 → Option (List α × List UInt8)
  | 0, _ => none
  | _ + 1, [] => none
  | f + 1, c :: t => if c = 0 then some ([], t) else if c = 1 then (match one t with | none => none | some (x, t') => (listR one f t').map fun p => (x :: p.1, p.2)) else none
theorem listB_cons {α : Type} (enc : α → List UInt8) (x : α) (l : List α) : listB enc (x :: l) = 1 :: (enc x ++ listB enc l) := by simp [listB]
theorem listR_listB {α : Type} (enc : α → List UInt8) (one : List UInt8 → Option (α × List UInt8)) (l : List α × List UInt8) (ok : ∀ x ∈ l.1, ∀ r, one (enc x ++ r) = some (x, r)) :
    ∀ f, l.1.length < f → listR one f (listB enc l.1 ++ l.2) = some (l.1, l.2) := by
  obtain ⟨l, s⟩ := l
  simp only at ok ⊢
  induction l with
  | nil =>
    intro f hf
    obtain ⟨f, rfl⟩ : ∃ m, f = m + 1 := ⟨f - 1, by simp at hf; omega⟩
    rfl
  | cons x l ih =>
    intro f hf
    obtain ⟨f, rfl⟩ : ∃ m, f = m + 1 := ⟨f - 1, by simp at hf; omega⟩
    rw [listB_cons]
    show listR one (f + 1) (1 :: (enc x ++ listB enc l ++ s)) = _
    rw [listR, if_neg (by decide), if_pos rfl, List.append_assoc, ok x (List.mem_cons_self ..)]
    simp only
    rw [ih (fun y hy => ok y (List.mem_cons_of_mem _ hy)) f (by simp at hf; omega)]
    rfl
def numsB : List Int → List UInt8 := listB intB
def textsB : List (List UInt8) → List UInt8 := listB textB
def numsR (l : List UInt8) : Option (List Int × List UInt8) := listR intR (l.length + 1) l
def textsR (l : List UInt8) : Option (List (List UInt8) × List UInt8) := listR textR (l.length + 1) l
end Go.Proofs.YtdgejkiackeieaaDoor.Wr
end
section
set_option linter.unusedVariables false
set_option linter.unusedSimpArgs false
/- What the printed functions of layer 2 compute, in the encoding's plain words. -/
set_option linter.unusedVariables false
set_option linter.unusedSimpArgs false
namespace Go.Proofs.YtdgejkiackeieaaDoor.Wr
open Go.RowKit Go.Proofs.YtdgejkiackeieaaDoor.PWr Go.Proofs.YtdgejkiackeieaaDoorW.PrintWords Go.Proofs.YtdgejkiackeieaaDoorW.PrintMore
/-! ### strings and bytes -/
abbrev mkB (l : List UInt8) : ByteArray := ⟨l.toArray⟩
theorem mkB_list (l : List UInt8) : (mkB l).data.toList = l := rfl
theorem mkB_size (l : List UInt8) : (mkB l).size = l.length := by show l.toArray.size = l.length; exact List.size_toArray ..
theorem len_size (s : ByteArray) : s.data.toList.length = s.size := Array.length_toList
theorem ext_ {s t : ByteArray} (h : s.data.toList = t.data.toList) : s = t := by
  obtain ⟨⟨a⟩⟩ := s; obtain ⟨⟨b⟩⟩ := t; cases h; rfl
def uh (l : List UInt8) : List Int := l.map fun c => (c.toNat : Int)
theorem uh_length (l : List UInt8) : (uh l).length = l.length := List.length_map ..
theorem uh_append (a b : List UInt8) : uh (a ++ b) = uh a ++ uh b := List.map_append ..
theorem str_uh (l : List UInt8) : strOfNums (uh l) = mkB l := by
  apply ext_
  rw [strOfNums_data, uh, List.map_map]
  show _ = l
  conv => rhs; rw [← List.map_id l]
  exact List.map_congr_left (fun c _ => by simp)
theorem bt_get (s : ByteArray) (i : Nat) (h : i < s.data.toList.length) : bt s (i : Int) = (s.data.toList[i].toNat : Int) := by
  have h' : i < s.size := by rw [← len_size]; exact h
  unfold bt
  rw [dif_pos (show ((i : Int)).toNat < s.size by omega)]
  rfl
theorem bt_zero (s : ByteArray) (c : UInt8) (t : List UInt8) (h : s.data.toList = c :: t) : bt s 0 = (c.toNat : Int) := by
  have h0 : 0 < s.data.toList.length := by rw [h]; simp
  have := bt_get s 0 h0
  rw [show ((0 : Nat) : Int) = 0 from rfl] at this
  rw [this]; simp [h]
theorem extract_drop (s : ByteArray) (a : Nat) : s.extract a s.size = mkB (s.data.toList.drop a) := by
  apply ext_
  rw [Lib.extract_data, mkB_list, List.take_of_length_le (by rw [List.length_drop, len_size]; omega)]
theorem size_pos (s : ByteArray) (c : UInt8) (t : List UInt8) (h : s.data.toList = c :: t) : s.size = t.length + 1 := by rw [← len_size, h]; rfl
theorem w64 {x : Int} (h0 : -9223372036854775808 ≤ x) (h1 : x < 9223372036854775808) : wrap64 x = x := by unfold wrap64; omega
theorem w_u64 (n : Int) : IntKind.u64.wrap n = n % 18446744073709551616 := by simp [IntKind.wrap, IntKind.bits, IntKind.signed]
/-! ### size -/
theorem mlenF_bit (f : Nat) : ∀ m, m < 256 ^ f → m < 18446744073709551616 → (Lib.bitLen m + 7) / 8 = mlenF f m := by
  induction f with
  | zero =>
    intro m h _
    rw [Nat.pow_zero] at h
    obtain rfl : m = 0 := by omega
    decide
  | succ f ih =>
    intro m h h64
    rw [mlenF]
    by_cases hm : m = 0
    · rw [if_pos hm, hm]; decide
    · rw [if_neg hm]
      by_cases h256 : m < 256
      · have h1 := Lib.bitLen_le8 ⟨m, h256⟩
        have h2 : 1 ≤ Lib.bitLen m := by rw [Lib.bitLen_half m hm (by omega)]; omega
        have h3 : m / 256 = 0 := by omega
        have h4 : mlenF f 0 = 0 := by cases f <;> simp [mlenF]
        simp only at h1
        rw [h3, h4]; omega
      · have := ih (m / 256) (by rw [Nat.pow_succ] at h; omega) (by omega)
        rw [Lib.bitLen_shift8 m (by omega) h64, ← this]; omega
theorem size_eq (m : Nat) (h : m < 18446744073709551616) : wire_size.f (m : Int) = some (mlen m : Int) := by
  have h8 : (Lib.bitLen m + 7) / 8 = mlen m := mlenF_bit 8 m h h
  have h9 := mlen_le8 (m := m) h
  unfold wire_size.f bits_Len64.f
  rw [if_pos (by omega), Option.bind_some, Int.toNat_natCast, w64 (x := (Lib.bitLen m : Int) + 7) (by omega) (by omega), Int.tdiv_eq_ediv_of_nonneg (by omega), w64 (by omega) (by omega)]
  congr 1
  omega
/-! ### Int -/
theorem xor_mask (c : Nat) (hc : c < 256) (neg : Bool) : Go.bits .xor .u8 (c : Int) (if neg then 255 else 0) = ((if neg then inv (UInt8.ofNat c) else UInt8.ofNat c).toNat : Int) := by
  have h : ∀ c : Fin 256, ∀ neg : Bool, Go.bits .xor .u8 (c.val : Int) (if neg then 255 else 0) = ((if neg then inv (UInt8.ofNat c.val) else UInt8.ofNat c.val).toNat : Int) := by decide +kernel
  exact h ⟨c, hc⟩ neg
def mk1 (neg : Bool) (l : List UInt8) : List UInt8 := if neg then l.map inv else l
theorem shr_byte (m i : Nat) (hi : i < 8) : (shr .u64 (m : Int) (wrap64 (8 * (i : Int)))) % 256 = ((m / 256 ^ i % 256 : Nat) : Int) := by
  have e : wrap64 (8 * (i : Int)) = ((8 * i : Nat) : Int) := by rw [w64 (by omega) (by omega)]; omega
  have hp : (2 : Nat) ^ (8 * i) = 256 ^ i := by rw [show (256 : Nat) = 2 ^ 8 from rfl, ← Nat.pow_mul]
  rw [e]
  show (m : Int) / 2 ^ min (((8 * i : Nat) : Int)).toNat 64 % 256 = _
  rw [Int.toNat_natCast, Nat.min_eq_left (by omega)]
  have e1 : ((2 : Int) ^ (8 * i)) = ((256 ^ i : Nat) : Int) := by rw [← hp]; exact (Int.natCast_pow 2 (8 * i)).symm
  rw [e1]
  omega
theorem int_loop (m : Nat) (neg : Bool) (j : Nat) (hj : j ≤ 8) : ∀ (pre : List UInt8) (k : Nat), pre.length + j ≤ 100 → wire_Int.l0 (k + j + 1) (m : Int) (if neg then 255 else 0) (uh pre) ((j : Int) - 1) = some (mkB (pre ++ mk1 neg (beR j m))) := by
  induction j with
  | zero =>
    intro pre k _
    rw [wire_Int.l0, if_neg (by omega), str_uh]
    cases neg <;> simp [mk1, beR]
  | succ j ih =>
    intro pre k hp
    rw [← Nat.add_assoc, show (((j + 1 : Nat) : Int) - 1) = (j : Int) by omega, wire_Int.l0, if_pos (by omega), if_pos (show 0 ≤ wrap64 (8 * (j : Int)) by rw [w64 (x := 8 * (j : Int)) (by omega) (by omega)]; omega), if_pos (by rw [uh_length]; omega), shr_byte m j (by omega), xor_mask _ (Nat.mod_lt _ (by decide)), w64 (x := (j : Int) - 1) (by omega) (by omega)]
    have e : uh pre ++ [((if neg = true then inv (UInt8.ofNat (m / 256 ^ j % 256)) else UInt8.ofNat (m / 256 ^ j % 256)).toNat : Int)] = uh (pre ++ [if neg = true then inv (UInt8.ofNat (m / 256 ^ j % 256)) else UInt8.ofNat (m / 256 ^ j % 256)]) := by simp [uh]
    rw [e, ih (by omega) _ k (by rw [List.length_append, List.length_singleton]; omega)]
    congr 2
    rw [List.append_assoc]
    congr 1
    cases neg <;> simp [mk1, beR]
theorem wire_Int_eq (n : Int) (h : InR n) : ∃ k, wire_Int.f k n = some (mkB (intB n)) := by
  obtain ⟨h1, h2⟩ := h
  by_cases hn : 0 ≤ n
  · obtain ⟨m, rfl⟩ := Int.eq_ofNat_of_zero_le hn
    have h8 := mlen_le8 (m := m) (pow8 (by omega))
    refine ⟨(mlen m + 1) + 2, ?_⟩
    have e1 : IntKind.u64.wrap (m : Int) = (m : Int) := by rw [w_u64]; omega
    unfold wire_Int.f
    rw [if_neg (by omega), e1, wire_Int.j0, size_eq m (by omega), Option.bind_some, if_neg (by omega), wire_Int.j1, w64 (x := 128 + (mlen m : Int)) (by omega) (by omega), w64 (x := (mlen m : Int) - 1) (by omega) (by omega)]
    have := int_loop m false (mlen m) h8 [UInt8.ofNat (128 + mlen m)] 0 (by rw [List.length_singleton]; omega)
    have e2 : ([(128 + (mlen m : Int)) % 256] : List Int) = uh [UInt8.ofNat (128 + mlen m)] := by
      simp only [uh, List.map_cons, List.map_nil, UInt8.toNat_ofNat']
      congr 1
    rw [e2, intB_pos]
    rw [Nat.zero_add] at this
    exact this
  · obtain ⟨m, hm⟩ : ∃ m : Nat, n = -1 - (m : Int) := ⟨(-1 - n).toNat, by omega⟩
    subst hm
    have h8 := mlen_le8 (m := m) (pow8 (by omega))
    refine ⟨(mlen m + 1) + 2, ?_⟩
    have e0 : IntKind.u64.wrap (-1 - (m : Int)) = ((18446744073709551615 - m : Nat) : Int) := by rw [w_u64]; omega
    have e1 : Go.bits .xor .u64 IntKind.u64.max (IntKind.u64.wrap (-1 - (m : Int))) = (m : Int) := by
      rw [e0, show IntKind.u64.max = ((18446744073709551615 : Nat) : Int) from rfl, u64_xor_nat _ _ (by omega) (by omega)]
      have : 18446744073709551615 ^^^ (18446744073709551615 - m) = m := by
        have hh := BitVec.toNat_not (x := BitVec.ofNat 64 (18446744073709551615 - m))
        have hx : (~~~(BitVec.ofNat 64 (18446744073709551615 - m))).toNat = 18446744073709551615 ^^^ (18446744073709551615 - m) := by
          rw [show ~~~(BitVec.ofNat 64 (18446744073709551615 - m)) = BitVec.allOnes 64 ^^^ BitVec.ofNat 64 (18446744073709551615 - m) from (BitVec.allOnes_xor).symm, BitVec.toNat_xor, BitVec.toNat_allOnes, BitVec.toNat_ofNat, Nat.mod_eq_of_lt (by omega)]
        rw [← hx, hh, BitVec.toNat_ofNat, Nat.mod_eq_of_lt (by omega)]
        omega
      rw [this]
    unfold wire_Int.f
    rw [if_pos (by omega), e1, wire_Int.j0, size_eq m (by omega), Option.bind_some, if_pos (by omega), wire_Int.j1, w64 (x := 127 - (mlen m : Int)) (by omega) (by omega), w64 (x := (mlen m : Int) - 1) (by omega) (by omega)]
    have := int_loop m true (mlen m) h8 [UInt8.ofNat (127 - mlen m)] 0 (by rw [List.length_singleton]; omega)
    have e2 : ([(127 - (mlen m : Int)) % 256] : List Int) = uh [UInt8.ofNat (127 - mlen m)] := by
      simp only [uh, List.map_cons, List.map_nil, UInt8.toNat_ofNat']
      congr 1
      omega
    rw [e2, intB_neg]
    rw [Nat.zero_add] at this
    exact this
end Go.Proofs.YtdgejkiackeieaaDoor.Wr
end
section
set_option linter.unusedVariables false
set_option linter.unusedSimpArgs false
-- printed by a program of this session's (xprint.py) out of the translation; Lean checks it
namespace Go.Proofs.YtdgejkiackeieaaDoor.PWr
open Go.RowKit Go.Proofs.YtdgejkiackeieaaDoorW.PrintWords Go.Proofs.YtdgejkiackeieaaDoorW.PrintLast Go.Proofs.YtdgejkiackeieaaDoorW.PrintMore
attribute [local go_sem] max2_int min2_int max_two min_two max_three min_three max_four min_four   -- for this text's walks alone
set_option linter.unusedVariables false
set_option linter.unusedSimpArgs false

/-! ### bourneref02_SameNums: function 76 -/
def bourneref02_SameNums.l0 : Nat → List Int → List Int → Int → Option (Bool)
  | 0, _, _, _ => none
  | k + 1, x0, x1, x5 => if x5 < (x0.length : Int) then (if 0 ≤ x5 then (if x5 < (x1.length : Int) then (if (rd x0 x5) = (rd x1 x5) then (bourneref02_SameNums.l0 k x0 x1 (wrap64 (x5 + 1))) else (some false)) else (none)) else (none)) else (some true)
def bourneref02_SameNums.f (k : Nat) (l0 : List Int) (l1 : List Int) : Option (Bool) := if (l0.length : Int) = (l1.length : Int) then (bourneref02_SameNums.l0 k l0 l1 0) else (some false)
theorem bourneref02_SameNums.mono_l : ∀ k, (∀ y0 y1 y2, LeO (bourneref02_SameNums.l0 k y0 y1 y2) (bourneref02_SameNums.l0 (k + 1) y0 y1 y2))
  | 0 => fun _ _ _ r h => by simp [bourneref02_SameNums.l0] at h
  | k + 1 => by
    have ih0 := bourneref02_SameNums.mono_l k
    · intro y0 y1 y2
      unfold bourneref02_SameNums.l0
      repeat' first
      | (with_reducible exact ih0 _ _ _)
      | (with_reducible exact LeO.refl _)
      | (with_reducible exact LeO.none _)
      | (with_reducible refine LeO.ite ?_ ?_)
      | (with_reducible refine LeO.bind ?_ (fun _ => ?_))
      | exact ih0 _ _ _
      | exact LeO.none _
      | refine LeO.ite ?_ ?_
      | refine LeO.bind ?_ (fun _ => ?_)
theorem bourneref02_SameNums.mono : ∀ a0 a1 k, LeO (bourneref02_SameNums.f k a0 a1) (bourneref02_SameNums.f (k + 1) a0 a1) := by
  intro a0 a1 k
  have ih0 := bourneref02_SameNums.mono_l k
  unfold bourneref02_SameNums.f
  repeat' first
      | (with_reducible exact ih0 _ _ _)
      | (with_reducible exact LeO.refl _)
      | (with_reducible exact LeO.none _)
      | (with_reducible refine LeO.ite ?_ ?_)
      | (with_reducible refine LeO.bind ?_ (fun _ => ?_))
      | exact ih0 _ _ _
      | exact LeO.none _
      | refine LeO.ite ?_ ?_
      | refine LeO.bind ?_ (fun _ => ?_)
set_option maxHeartbeats 8000000 in
set_option maxRecDepth 100000 in
theorem bourneref02_SameNums.calls (k : Nat) (A0 : Option Addr) (c0 : Nat) (l0 : List Int) (A1 : Option Addr) (c1 : Nat) (l1 : List Int) (r : Bool) (w : World) (hr0 : Kd.C (Kd.int .i64) w A0 l0.length l0) (hc0 : l0.length ≤ c0) (hr1 : Kd.C (Kd.int .i64) w A1 l1.length l1) (hc1 : l1.length ≤ c1) (h : bourneref02_SameNums.f k l0 l1 = some r) :
    Calls Tryd.prog 76 #[.slice A0 l0.length c0, .slice A1 l1.length c1] w fun e w' => e = .returned (.bool r) ∧ Drawn0 w w' := by
  have HR0 := Aside0.mk hr0
  have HC0 := Aside0.mk hc0
  clear hr0 hc0
  have HR1 := Aside0.mk hr1
  have HC1 := Aside0.mk hc1
  clear hr1 hc1
  have H : (if (l0.length : Int) = (l1.length : Int) then (bourneref02_SameNums.l0 k l0 l1 0) else (some false)) = some r := h
  clear h
  by_cases c3 : (l0.length : Int) = (l1.length : Int)
  · rw [if_pos c3] at H
    have c3b0 : ((l0.length : Int) == (l1.length : Int)) = true := beq_iff_eq.mpr c3
    have c3b1 : ((l0.length : Int) != (l1.length : Int)) = false := bne_eq_false_iff_eq.mpr c3
    have c3b2 : (l0.length == l1.length) = true := by first | simpa using c3 | (simp at c3 ⊢; omega)
    clear c3
    have H' := Aside0.mk H
    clear H
    go_enter Tryd.func76, Tryd.ntmps76
    go_wp2
    repeat (go_quiet (fail); try go_wp2)
    go_loopg [5] k (fun kq v5 w' => ∃ (x5_1 : Int), v5 = .int .i64 x5_1 ∧ Aside0 (bourneref02_SameNums.l0 kq l0 l1 x5_1 = some r) ∧ Aside0 (kq ≤ k) ∧ Drawn0 w w')
    case atStart => exact ⟨(0), (by first | rfl | (simp; done) | (simp [*]; done)), H', ⟨Nat.le_refl _⟩, by repeat (first | exact Drawn0.refl _ | apply Drawn0.step)⟩
    case round =>
      clear H'
      try clear c1
      try clear p2
      try clear c3
      try clear c3b0
      try clear c3b1
      try clear c3b2
      obtain ⟨x5_1, rfl, HA, HK1, ⟨m1, rfl⟩⟩ := hrel
      cases gk with
      | zero => exact absurd HA.out (by simp [bourneref02_SameNums.l0])
      | succ k1 =>
        have H := HA.out
        clear HA
        simp only [bourneref02_SameNums.l0] at H
        by_cases c4 : x5_1 < (l0.length : Int)
        · rw [if_pos c4] at H
          have c4b0 : decide (x5_1 < (l0.length : Int)) = true := decide_eq_true c4
          clear c4
          by_cases c5 : 0 ≤ x5_1
          · rw [if_pos c5] at H
            have c5b0 : decide (0 ≤ x5_1) = true := decide_eq_true c5
            clear c5
            by_cases c6 : x5_1 < (l1.length : Int)
            · rw [if_pos c6] at H
              have c6b0 : decide (x5_1 < (l1.length : Int)) = true := decide_eq_true c6
              clear c6
              by_cases c7 : (rd l0 x5_1) = (rd l1 x5_1)
              · rw [if_pos c7] at H
                have c7b0 : ((rd l0 x5_1) == (rd l1 x5_1)) = true := beq_iff_eq.mpr c7
                have c7b1 : ((rd l0 x5_1) != (rd l1 x5_1)) = false := bne_eq_false_iff_eq.mpr c7
                clear c7
                have H' := Aside0.mk H
                clear H
                have p191 : 0 ≤ (x5_1 : Int) := of_decide_eq_true (by first | (with_reducible assumption) | assumption)
                have q191 : x5_1 < (l0.length : Int) := of_decide_eq_true (by first | (with_reducible assumption) | assumption)
                obtain ⟨ad191, e191, hx191_0⟩ := Kd.at_int HR0.out x5_1 p191 q191
                cases e191
                replace p191 := eq_true p191
                replace q191 := eq_true q191
                have p192 : 0 ≤ (x5_1 : Int) := of_decide_eq_true (by first | (with_reducible assumption) | assumption)
                have q192 : x5_1 < (l1.length : Int) := of_decide_eq_true (by first | (with_reducible assumption) | assumption)
                obtain ⟨ad192, e192, hx192_0⟩ := Kd.at_int HR1.out x5_1 p192 q192
                cases e192
                replace p192 := eq_true p192
                replace q192 := eq_true q192
                go_wp2
                repeat (go_quiet (fail); try go_wp2)
                go_roundg k1
                case measure => have := HK1.out; omega
                case rel => exact ⟨(wrap64 (x5_1 + 1)), (by first | rfl | (simp; done) | (simp [*]; done)), H', ⟨by have := HK1.out; omega⟩, by repeat (first | exact Drawn0.refl _ | apply Drawn0.step)⟩
              · rw [if_neg c7] at H
                have c7b0 : ((rd l0 x5_1) == (rd l1 x5_1)) = false := beq_eq_false_iff_ne.mpr c7
                have c7b1 : ((rd l0 x5_1) != (rd l1 x5_1)) = true := bne_iff_ne.mpr c7
                obtain rfl := Option.some.inj H
                have p191 : 0 ≤ (x5_1 : Int) := of_decide_eq_true (by first | (with_reducible assumption) | assumption)
                have q191 : x5_1 < (l0.length : Int) := of_decide_eq_true (by first | (with_reducible assumption) | assumption)
                obtain ⟨ad191, e191, hx191_0⟩ := Kd.at_int HR0.out x5_1 p191 q191
                cases e191
                replace p191 := eq_true p191
                replace q191 := eq_true q191
                have p192 : 0 ≤ (x5_1 : Int) := of_decide_eq_true (by first | (with_reducible assumption) | assumption)
                have q192 : x5_1 < (l1.length : Int) := of_decide_eq_true (by first | (with_reducible assumption) | assumption)
                obtain ⟨ad192, e192, hx192_0⟩ := Kd.at_int HR1.out x5_1 p192 q192
                cases e192
                replace p192 := eq_true p192
                replace q192 := eq_true q192
                go_wp2
                repeat (go_quiet (fail); try go_wp2)
                go_ret
                exact ⟨by first | rfl | (simp; done) | (simp [*]; done), by repeat (first | exact Drawn0.refl _ | apply Drawn0.step)⟩
            · rw [if_neg c6] at H
              exact absurd H (by simp)
          · rw [if_neg c5] at H
            exact absurd H (by simp)
        · rw [if_neg c4] at H
          have c4b0 : decide (x5_1 < (l0.length : Int)) = false := decide_eq_false c4
          clear c4
          obtain rfl := Option.some.inj H
          go_wp2
          repeat (go_quiet (fail); try go_wp2)
          go_ret
          exact ⟨by first | rfl | (simp; done) | (simp [*]; done), by repeat (first | exact Drawn0.refl _ | apply Drawn0.step)⟩
  · rw [if_neg c3] at H
    have c3b0 : ((l0.length : Int) == (l1.length : Int)) = false := beq_eq_false_iff_ne.mpr c3
    have c3b1 : ((l0.length : Int) != (l1.length : Int)) = true := bne_iff_ne.mpr c3
    have c3b2 : (l0.length == l1.length) = false := by first | simpa using c3 | (simp at c3 ⊢; omega)
    obtain rfl := Option.some.inj H
    go_enter Tryd.func76, Tryd.ntmps76
    go_wp2
    repeat (go_quiet (fail); try go_wp2)
    go_ret
    exact ⟨by first | rfl | (simp; done) | (simp [*]; done), by repeat (first | exact Drawn0.refl _ | apply Drawn0.step)⟩

/-! ### bourneref02_SameTexts: function 79 -/
def bourneref02_SameTexts.l0 : Nat → List ByteArray → List ByteArray → Int → Option (Bool)
  | 0, _, _, _ => none
  | k + 1, x0, x1, x5 => if x5 < (x0.length : Int) then (if 0 ≤ x5 then (if x5 < (x1.length : Int) then (if (rdOf ByteArray.empty x0 x5).toList = (rdOf ByteArray.empty x1 x5).toList then (bourneref02_SameTexts.l0 k x0 x1 (wrap64 (x5 + 1))) else (some false)) else (none)) else (none)) else (some true)
def bourneref02_SameTexts.f (k : Nat) (l0 : List ByteArray) (l1 : List ByteArray) : Option (Bool) := if (l0.length : Int) = (l1.length : Int) then (bourneref02_SameTexts.l0 k l0 l1 0) else (some false)
theorem bourneref02_SameTexts.mono_l : ∀ k, (∀ y0 y1 y2, LeO (bourneref02_SameTexts.l0 k y0 y1 y2) (bourneref02_SameTexts.l0 (k + 1) y0 y1 y2))
  | 0 => fun _ _ _ r h => by simp [bourneref02_SameTexts.l0] at h
  | k + 1 => by
    have ih0 := bourneref02_SameTexts.mono_l k
    · intro y0 y1 y2
      unfold bourneref02_SameTexts.l0
      repeat' first
      | (with_reducible exact ih0 _ _ _)
      | (with_reducible exact LeO.refl _)
      | (with_reducible exact LeO.none _)
      | (with_reducible refine LeO.ite ?_ ?_)
      | (with_reducible refine LeO.bind ?_ (fun _ => ?_))
      | exact ih0 _ _ _
      | exact LeO.none _
      | refine LeO.ite ?_ ?_
      | refine LeO.bind ?_ (fun _ => ?_)
theorem bourneref02_SameTexts.mono : ∀ a0 a1 k, LeO (bourneref02_SameTexts.f k a0 a1) (bourneref02_SameTexts.f (k + 1) a0 a1) := by
  intro a0 a1 k
  have ih0 := bourneref02_SameTexts.mono_l k
  unfold bourneref02_SameTexts.f
  repeat' first
      | (with_reducible exact ih0 _ _ _)
      | (with_reducible exact LeO.refl _)
      | (with_reducible exact LeO.none _)
      | (with_reducible refine LeO.ite ?_ ?_)
      | (with_reducible refine LeO.bind ?_ (fun _ => ?_))
      | exact ih0 _ _ _
      | exact LeO.none _
      | refine LeO.ite ?_ ?_
      | refine LeO.bind ?_ (fun _ => ?_)
set_option maxHeartbeats 8000000 in
set_option maxRecDepth 100000 in
theorem bourneref02_SameTexts.calls (k : Nat) (A0 : Option Addr) (c0 : Nat) (l0 : List ByteArray) (A1 : Option Addr) (c1 : Nat) (l1 : List ByteArray) (r : Bool) (w : World) (hr0 : Kd.C Kd.string w A0 l0.length l0) (hc0 : l0.length ≤ c0) (hr1 : Kd.C Kd.string w A1 l1.length l1) (hc1 : l1.length ≤ c1) (h : bourneref02_SameTexts.f k l0 l1 = some r) :
    Calls Tryd.prog 79 #[.slice A0 l0.length c0, .slice A1 l1.length c1] w fun e w' => e = .returned (.bool r) ∧ Drawn0 w w' := by
  have HR0 := Aside0.mk hr0
  have HC0 := Aside0.mk hc0
  clear hr0 hc0
  have HR1 := Aside0.mk hr1
  have HC1 := Aside0.mk hc1
  clear hr1 hc1
  have H : (if (l0.length : Int) = (l1.length : Int) then (bourneref02_SameTexts.l0 k l0 l1 0) else (some false)) = some r := h
  clear h
  by_cases c3 : (l0.length : Int) = (l1.length : Int)
  · rw [if_pos c3] at H
    have c3b0 : ((l0.length : Int) == (l1.length : Int)) = true := beq_iff_eq.mpr c3
    have c3b1 : ((l0.length : Int) != (l1.length : Int)) = false := bne_eq_false_iff_eq.mpr c3
    have c3b2 : (l0.length == l1.length) = true := by first | simpa using c3 | (simp at c3 ⊢; omega)
    clear c3
    have H' := Aside0.mk H
    clear H
    go_enter Tryd.func79, Tryd.ntmps79
    go_wp2
    repeat (go_quiet (fail); try go_wp2)
    go_loopg [5] k (fun kq v5 w' => ∃ (x5_1 : Int), v5 = .int .i64 x5_1 ∧ Aside0 (bourneref02_SameTexts.l0 kq l0 l1 x5_1 = some r) ∧ Aside0 (kq ≤ k) ∧ Drawn0 w w')
    case atStart => exact ⟨(0), (by first | rfl | (simp; done) | (simp [*]; done)), H', ⟨Nat.le_refl _⟩, by repeat (first | exact Drawn0.refl _ | apply Drawn0.step)⟩
    case round =>
      clear H'
      try clear c1
      try clear p2
      try clear c3
      try clear c3b0
      try clear c3b1
      try clear c3b2
      obtain ⟨x5_1, rfl, HA, HK1, ⟨m1, rfl⟩⟩ := hrel
      cases gk with
      | zero => exact absurd HA.out (by simp [bourneref02_SameTexts.l0])
      | succ k1 =>
        have H := HA.out
        clear HA
        simp only [bourneref02_SameTexts.l0] at H
        by_cases c4 : x5_1 < (l0.length : Int)
        · rw [if_pos c4] at H
          have c4b0 : decide (x5_1 < (l0.length : Int)) = true := decide_eq_true c4
          clear c4
          by_cases c5 : 0 ≤ x5_1
          · rw [if_pos c5] at H
            have c5b0 : decide (0 ≤ x5_1) = true := decide_eq_true c5
            clear c5
            by_cases c6 : x5_1 < (l1.length : Int)
            · rw [if_pos c6] at H
              have c6b0 : decide (x5_1 < (l1.length : Int)) = true := decide_eq_true c6
              clear c6
              by_cases c7 : (rdOf ByteArray.empty l0 x5_1).toList = (rdOf ByteArray.empty l1 x5_1).toList
              · rw [if_pos c7] at H
                have c7b0 : ((rdOf ByteArray.empty l0 x5_1).toList == (rdOf ByteArray.empty l1 x5_1).toList) = true := beq_iff_eq.mpr c7
                have c7b1 : ((rdOf ByteArray.empty l0 x5_1).toList != (rdOf ByteArray.empty l1 x5_1).toList) = false := bne_eq_false_iff_eq.mpr c7
                clear c7
                have H' := Aside0.mk H
                clear H
                have p193 : 0 ≤ (x5_1 : Int) := of_decide_eq_true (by first | (with_reducible assumption) | assumption)
                have q193 : x5_1 < (l0.length : Int) := of_decide_eq_true (by first | (with_reducible assumption) | assumption)
                obtain ⟨ad193, e193, hx193_0⟩ := Kd.at_string HR0.out x5_1 p193 q193
                cases e193
                replace p193 := eq_true p193
                replace q193 := eq_true q193
                have p194 : 0 ≤ (x5_1 : Int) := of_decide_eq_true (by first | (with_reducible assumption) | assumption)
                have q194 : x5_1 < (l1.length : Int) := of_decide_eq_true (by first | (with_reducible assumption) | assumption)
                obtain ⟨ad194, e194, hx194_0⟩ := Kd.at_string HR1.out x5_1 p194 q194
                cases e194
                replace p194 := eq_true p194
                replace q194 := eq_true q194
                go_wp2
                repeat (go_quiet (fail); try go_wp2)
                go_roundg k1
                case measure => have := HK1.out; omega
                case rel => exact ⟨(wrap64 (x5_1 + 1)), (by first | rfl | (simp; done) | (simp [*]; done)), H', ⟨by have := HK1.out; omega⟩, by repeat (first | exact Drawn0.refl _ | apply Drawn0.step)⟩
              · rw [if_neg c7] at H
                have c7b0 : ((rdOf ByteArray.empty l0 x5_1).toList == (rdOf ByteArray.empty l1 x5_1).toList) = false := beq_eq_false_iff_ne.mpr c7
                have c7b1 : ((rdOf ByteArray.empty l0 x5_1).toList != (rdOf ByteArray.empty l1 x5_1).toList) = true := bne_iff_ne.mpr c7
                obtain rfl := Option.some.inj H
                have p193 : 0 ≤ (x5_1 : Int) := of_decide_eq_true (by first | (with_reducible assumption) | assumption)
                have q193 : x5_1 < (l0.length : Int) := of_decide_eq_true (by first | (with_reducible assumption) | assumption)
                obtain ⟨ad193, e193, hx193_0⟩ := Kd.at_string HR0.out x5_1 p193 q193
                cases e193
                replace p193 := eq_true p193
                replace q193 := eq_true q193
                have p194 : 0 ≤ (x5_1 : Int) := of_decide_eq_true (by first | (with_reducible assumption) | assumption)
                have q194 : x5_1 < (l1.length : Int) := of_decide_eq_true (by first | (with_reducible assumption) | assumption)
                obtain ⟨ad194, e194, hx194_0⟩ := Kd.at_string HR1.out x5_1 p194 q194
                cases e194
                replace p194 := eq_true p194
                replace q194 := eq_true q194
                go_wp2
                repeat (go_quiet (fail); try go_wp2)
                go_ret
                exact ⟨by first | rfl | (simp; done) | (simp [*]; done), by repeat (first | exact Drawn0.refl _ | apply Drawn0.step)⟩
            · rw [if_neg c6] at H
              exact absurd H (by simp)
          · rw [if_neg c5] at H
            exact absurd H (by simp)
        · rw [if_neg c4] at H
          have c4b0 : decide (x5_1 < (l0.length : Int)) = false := decide_eq_false c4
          clear c4
          obtain rfl := Option.some.inj H
          go_wp2
          repeat (go_quiet (fail); try go_wp2)
          go_ret
          exact ⟨by first | rfl | (simp; done) | (simp [*]; done), by repeat (first | exact Drawn0.refl _ | apply Drawn0.step)⟩
  · rw [if_neg c3] at H
    have c3b0 : ((l0.length : Int) == (l1.length : Int)) = false := beq_eq_false_iff_ne.mpr c3
    have c3b1 : ((l0.length : Int) != (l1.length : Int)) = true := bne_iff_ne.mpr c3
    have c3b2 : (l0.length == l1.length) = false := by first | simpa using c3 | (simp at c3 ⊢; omega)
    obtain rfl := Option.some.inj H
    go_enter Tryd.func79, Tryd.ntmps79
    go_wp2
    repeat (go_quiet (fail); try go_wp2)
    go_ret
    exact ⟨by first | rfl | (simp; done) | (simp [*]; done), by repeat (first | exact Drawn0.refl _ | apply Drawn0.step)⟩

end Go.Proofs.YtdgejkiackeieaaDoor.PWr
end
section
set_option linter.unusedVariables false
set_option linter.unusedSimpArgs false
/- What the printed readers of layer 2 and the reference's printed functions compute, in the encoding's plain words. -/
set_option linter.unusedVariables false
set_option linter.unusedSimpArgs false
namespace Go.Proofs.YtdgejkiackeieaaDoor.Wr
open Go.RowKit Go.Proofs.YtdgejkiackeieaaDoor.PWr Go.Proofs.YtdgejkiackeieaaDoorW.PrintWords Go.Proofs.YtdgejkiackeieaaDoorW.PrintMore
/-- What a reader's function answers: the value, what is left, whether it has failed. -/
def rdr {α : Type} (o : Option (α × List UInt8)) (d : α) (bad : Bool) : α × ByteArray × Bool := match o with | some (x, r) => (x, mkB r, bad) | none => (d, mkB [], true)
theorem toList_nil (s : ByteArray) (h : s.data.toList = []) : s.toList = ([] : List UInt8) := by rw [ByteArray.toList_eq, h]
theorem toList_cons (s : ByteArray) (c : UInt8) (t : List UInt8) (h : s.data.toList = c :: t) : ¬ s.toList = ([] : List UInt8) := by rw [ByteArray.toList_eq, h]; simp
theorem byte_nil (s : ByteArray) (bad : Bool) (h : s.data.toList = []) : wire_Reader_byte.f s bad = some (0, false, mkB [], true) := by
  unfold wire_Reader_byte.f wire_Reader_fail.f
  rw [if_pos (toList_nil s h)]; rfl
theorem byte_cons (s : ByteArray) (bad : Bool) (c : UInt8) (t : List UInt8) (h : s.data.toList = c :: t) : wire_Reader_byte.f s bad = some ((c.toNat : Int), true, mkB t, bad) := by
  have hz := size_pos s c t h
  unfold wire_Reader_byte.f
  rw [if_neg (toList_cons s c t h), if_pos (by omega), if_pos (by omega), bt_zero s c t h, extract_drop s 1, h]
  rfl
theorem not_u64 (m : Nat) (hm : m < 18446744073709551616) : Go.bits .xor .u64 IntKind.u64.max (m : Int) = ((18446744073709551615 - m : Nat) : Int) := by
  rw [show IntKind.u64.max = ((18446744073709551615 : Nat) : Int) from rfl, u64_xor_nat _ _ (by omega) (by omega)]
  have : 18446744073709551615 ^^^ m = 18446744073709551615 - m := by
    have hh := BitVec.toNat_not (x := BitVec.ofNat 64 m)
    have hx : (~~~(BitVec.ofNat 64 m)).toNat = 18446744073709551615 ^^^ m := by
      rw [show ~~~(BitVec.ofNat 64 m) = BitVec.allOnes 64 ^^^ BitVec.ofNat 64 m from (BitVec.allOnes_xor).symm, BitVec.toNat_xor, BitVec.toNat_allOnes, BitVec.toNat_ofNat, Nat.mod_eq_of_lt (by omega)]
    rw [← hx, hh, BitVec.toNat_ofNat, Nat.mod_eq_of_lt (by omega)]
  rw [this]
theorem or_byte (n : Nat) (c : Nat) (hn : n < 2 ^ 56) (hc : c < 256) : Go.bits .or .u64 (IntKind.u64.wrap ((n : Int) * 256)) (IntKind.u64.wrap (c : Int)) = ((n * 256 + c : Nat) : Int) := by
  have e1 : IntKind.u64.wrap ((n : Int) * 256) = ((n * 256 : Nat) : Int) := by rw [w_u64]; omega
  have e2 : IntKind.u64.wrap (c : Int) = (c : Int) := by rw [w_u64]; omega
  rw [e1, e2, u64_or_nat _ _ (by omega) (by omega), nat_join 8 (n * 256) c (by omega) (by omega)]
/-- What the reader makes of the first kk bytes. -/
def fin (neg : Bool) (kk : Nat) (t : List UInt8) (bad : Bool) : Int × ByteArray × Bool :=
  if mlen (beV (mk1 neg (t.take kk))) ≠ kk ∨ 9223372036854775808 ≤ beV (mk1 neg (t.take kk)) then (0, mkB [], true)
  else (if neg then -1 - (beV (mk1 neg (t.take kk)) : Int) else (beV (mk1 neg (t.take kk)) : Int), mkB (t.drop kk), bad)
theorem mk1_length (neg : Bool) (l : List UInt8) : (mk1 neg l).length = l.length := by cases neg <;> simp [mk1]
theorem mk1_snoc (neg : Bool) (l : List UInt8) (c : UInt8) : mk1 neg (l ++ [c]) = mk1 neg l ++ [if neg then inv c else c] := by cases neg <;> simp [mk1]
theorem pow256_le8 {k : Nat} (h : k ≤ 8) : 256 ^ k ≤ 18446744073709551616 := Nat.le_trans (Nat.pow_le_pow_right (by decide) h) (by decide)
theorem rd_loop (s : ByteArray) (neg bad : Bool) (kk : Nat) (hk : kk ≤ 8) (hl : kk ≤ s.data.toList.length) (d : Nat) : ∀ (i k : Nat), i + d = kk →
    wire_Reader_Int.l0 (k + d + 3) (kk : Int) (if neg then 255 else 0) (beV (mk1 neg (s.data.toList.take i)) : Int) (kk : Int) (i : Int) s bad = some (fin neg kk s.data.toList bad) := by
  induction d with
  | zero =>
    intro i k hi
    obtain rfl : i = kk := by omega
    have hv := beV_lt (mk1 neg (s.data.toList.take i))
    rw [mk1_length, List.length_take, Nat.min_eq_left hl] at hv
    have hv8 := pow256_le8 hk
    obtain ⟨m, hm⟩ : ∃ m, beV (mk1 neg (s.data.toList.take i)) = m := ⟨_, rfl⟩
    have hz : s.size = s.data.toList.length := (len_size s).symm
    unfold fin
    rw [hm] at hv ⊢
    rw [wire_Reader_Int.l0, if_neg (by omega), size_eq m (by omega), Option.bind_some]
    by_cases h1 : mlen m = i
    · rw [if_pos (by omega)]
      by_cases h2 : 9223372036854775808 ≤ m
      · rw [if_pos (show mlen m ≠ i ∨ 9223372036854775808 ≤ m from Or.inr h2), wire_Reader_Int.j3, if_pos (by rw [bne_iff_ne]; omega)]
        rfl
      · rw [if_neg (show ¬ (mlen m ≠ i ∨ 9223372036854775808 ≤ m) by omega), wire_Reader_Int.j3, if_neg (by rw [bne_iff_ne]; omega), if_pos (by omega), if_pos (by omega)]
        have ed : s.extract ((i : Int)).toNat s.size = mkB (s.data.toList.drop i) := extract_drop s i
        cases neg with
        | false => rw [if_pos (by simp), ed, w64 (by omega) (by omega)]; rfl
        | true =>
          have en : wrap64 (Go.bits .xor .u64 IntKind.u64.max (m : Int)) = -1 - (m : Int) := by rw [not_u64 m (by omega)]; unfold wrap64; omega
          rw [if_neg (by simp), ed, en]; rfl
    · rw [if_neg (show ¬ (mlen m : Int) = (i : Int) by omega), if_pos (show mlen m ≠ i ∨ 9223372036854775808 ≤ m from Or.inl h1), wire_Reader_Int.j3, if_pos rfl]
      rfl
  | succ d ih =>
    intro i k hi
    have hlt : i < s.data.toList.length := by omega
    have hz : s.size = s.data.toList.length := (len_size s).symm
    have hv := beV_lt (mk1 neg (s.data.toList.take i))
    rw [mk1_length, List.length_take, Nat.min_eq_left (by omega)] at hv
    have hv7 : 256 ^ i ≤ 2 ^ 56 := Nat.le_trans (Nat.pow_le_pow_right (by decide) (show i ≤ 7 by omega)) (by decide)
    have hc := (s.data.toList[i]).toNat_lt
    have hx : Go.bits .xor .u8 ((s.data.toList[i]).toNat : Int) (if neg = true then 255 else 0) = ((if neg then inv s.data.toList[i] else s.data.toList[i]).toNat : Int) := by
      have := xor_mask (s.data.toList[i]).toNat hc neg
      rw [UInt8.ofNat_toNat] at this
      exact this
    have hT : beV (mk1 neg (s.data.toList.take (i + 1))) = beV (mk1 neg (s.data.toList.take i)) * 256 + (if neg then inv s.data.toList[i] else s.data.toList[i]).toNat := by
      rw [List.take_succ_eq_append_getElem hlt, mk1_snoc, beV_snoc]
    rw [show k + (d + 1) + 3 = (k + d + 3) + 1 by omega, wire_Reader_Int.l0, if_pos (by omega), if_pos (by omega), if_pos (by omega), bt_get s i hlt, hx, or_byte _ _ (by omega) (UInt8.toNat_lt _), w64 (x := (i : Int) + 1) (by omega) (by omega), ← hT]
    exact ih (i + 1) k (by omega)
theorem intR_cons (c : UInt8) (t : List UInt8) (bad : Bool) :
    rdr (intR (c :: t)) 0 bad = if (if c.toNat < 128 then 127 - c.toNat else c.toNat - 128) > 8 ∨ (if c.toNat < 128 then 127 - c.toNat else c.toNat - 128) > t.length then (0, mkB [], true)
      else fin (decide (c.toNat < 128)) (if c.toNat < 128 then 127 - c.toNat else c.toNat - 128) t bad := by
  have mt : ∀ l, mk1 true l = l.map inv := fun _ => rfl
  have mf : ∀ l, mk1 false l = l := fun _ => rfl
  rw [intR]
  by_cases h : c.toNat < 128
  · rw [if_pos h, if_pos h, decide_eq_true h]
    generalize 127 - c.toNat = kk
    unfold fin
    rw [mt, if_pos rfl]
    by_cases h1 : kk > 8 ∨ kk > t.length
    · rw [if_pos h1, if_pos h1]; rfl
    · rw [if_neg h1, if_neg h1]
      by_cases h2 : mlen (beV ((t.take kk).map inv)) ≠ kk ∨ 9223372036854775808 ≤ beV ((t.take kk).map inv)
      · rw [if_pos h2, if_pos h2]; rfl
      · rw [if_neg h2, if_neg h2]; rfl
  · rw [if_neg h, if_neg h, decide_eq_false h]
    generalize c.toNat - 128 = kk
    unfold fin
    rw [mf]
    by_cases h1 : kk > 8 ∨ kk > t.length
    · rw [if_pos h1, if_pos h1]; rfl
    · rw [if_neg h1, if_neg h1]
      by_cases h2 : mlen (beV (t.take kk)) ≠ kk ∨ 9223372036854775808 ≤ beV (t.take kk)
      · rw [if_pos h2, if_pos h2]; rfl
      · rw [if_neg h2, if_neg h2]; rfl
set_option maxRecDepth 100000 in
theorem Reader_Int_eq (s : ByteArray) (hs : s.size ≤ 10000000) (bad : Bool) : ∃ k, wire_Reader_Int.f k s bad = some (rdr (intR s.data.toList) 0 bad) := by
  cases hl : s.data.toList with
  | nil =>
    refine ⟨0, ?_⟩
    unfold wire_Reader_Int.f
    rw [byte_nil s bad hl, Option.bind_some]
    rfl
  | cons c t =>
    have hc := c.toNat_lt
    have hz := size_pos s c t hl
    have ht : (mkB t).data.toList = t := rfl
    have e1 : wrap64 ((c.toNat : Int)) = (c.toNat : Int) := w64 (by omega) (by omega)
    have e2 : wrap64 ((c.toNat : Int) - 128) = (c.toNat : Int) - 128 := w64 (by omega) (by omega)
    obtain ⟨kk, hkk⟩ : ∃ kk : Nat, (if c.toNat < 128 then 127 - c.toNat else c.toNat - 128) = kk := ⟨_, rfl⟩
    refine ⟨(0 + kk + 3) + 1 + 1, ?_⟩
    rw [intR_cons, hkk]
    have go : wire_Reader_Int.j0 ((0 + kk + 3) + 1 + 1) (kk : Int) (if decide (c.toNat < 128) = true then 255 else 0) (mkB t) bad = some (if kk > 8 ∨ kk > t.length then (0, mkB [], true) else fin (decide (c.toNat < 128)) kk t bad) := by
      rw [wire_Reader_Int.j0]
      by_cases h8 : kk > 8
      · rw [if_pos (by omega), wire_Reader_Int.j1, if_pos rfl, if_pos (Or.inl h8)]; rfl
      · rw [if_neg (by omega), wire_Reader_Int.j1]
        have hsz : (mkB t).size = t.length := mkB_size t
        by_cases hlen : kk > t.length
        · rw [decide_eq_true (show (kk : Int) > ((mkB t).size : Int) by omega), if_pos rfl, if_pos (Or.inr hlen)]; rfl
        · rw [decide_eq_false (show ¬ (kk : Int) > ((mkB t).size : Int) by omega), if_neg (by decide), if_neg (show ¬ (kk > 8 ∨ kk > t.length) by omega)]
          have := rd_loop (mkB t) (decide (c.toNat < 128)) bad kk (by omega) (by rw [ht]; omega) kk 0 0 (by omega)
          have e0 : beV (mk1 (decide (c.toNat < 128)) ((mkB t).data.toList.take 0)) = 0 := by cases decide (c.toNat < 128) <;> rfl
          rw [e0] at this
          exact this
    unfold wire_Reader_Int.f
    rw [byte_cons s bad c t hl, Option.bind_some, if_pos rfl]
    show (if wrap64 (wrap64 (c.toNat : Int) - 128) < 0 then _ else _) = _
    rw [e1, e2]
    by_cases hneg : c.toNat < 128
    · rw [if_pos (by omega), show wrap64 (-1 - ((c.toNat : Int) - 128)) = (kk : Int) by rw [w64 (by omega) (by omega)]; rw [if_pos hneg] at hkk; omega]
      rw [decide_eq_true hneg] at go ⊢
      exact go
    · rw [if_neg (by omega), show (c.toNat : Int) - 128 = (kk : Int) by rw [if_neg hneg] at hkk; omega]
      rw [decide_eq_false hneg] at go ⊢
      exact go
end Go.Proofs.YtdgejkiackeieaaDoor.Wr
end
section
set_option linter.unusedVariables false
set_option linter.unusedSimpArgs false
/- What the reference's printed functions of layer 2 compute, in the encoding's plain words. -/
set_option linter.unusedVariables false
set_option linter.unusedSimpArgs false
namespace Go.Proofs.YtdgejkiackeieaaDoor.Wr
open Go.RowKit Go.Proofs.YtdgejkiackeieaaDoor.PWr Go.Proofs.YtdgejkiackeieaaDoorW.PrintWords Go.Proofs.YtdgejkiackeieaaDoorW.PrintMore
theorem mlenF_fuel (f : Nat) : ∀ m, m < 256 ^ f → mlenF (f + 1) m = mlenF f m := by
  induction f with
  | zero => intro m h; rw [Nat.pow_zero] at h; obtain rfl : m = 0 := by omega
            rfl
  | succ f ih =>
    intro m h
    show (if m = 0 then 0 else mlenF (f + 1) (m / 256) + 1) = (if m = 0 then 0 else mlenF f (m / 256) + 1)
    by_cases hm : m = 0
    · rw [if_pos hm, if_pos hm]
    · rw [if_neg hm, if_neg hm, ih (m / 256) (by rw [Nat.pow_succ] at h; omega)]
theorem mlen_step {m : Nat} (hm : m ≠ 0) (h : m < 18446744073709551616) : mlen m = mlen (m / 256) + 1 := by
  show mlenF 8 m = mlenF 8 (m / 256) + 1
  rw [mlenF_fuel 7 (m / 256) (by omega)]
  show mlenF (7 + 1) m = _
  rw [mlenF, if_neg hm]
theorem mlen_zero : mlen 0 = 0 := rfl
theorem digits_eq (j : Nat) : ∀ (m k : Nat) (acc : List Int), m < 18446744073709551616 → mlen m = j → acc.length + j ≤ 100 → j ≤ 8 → bourneref02_digits.l0 (k + j + 1) (m : Int) acc = some (uh (beR j m) ++ acc) := by
  induction j with
  | zero =>
    intro m k acc h hj _ _
    have : m = 0 := by
      by_cases hm : m = 0
      · exact hm
      · rw [mlen_step hm h] at hj; omega
    subst this
    rw [bourneref02_digits.l0, if_neg (by decide)]
    rfl
  | succ j ih =>
    intro m k acc h hj ha h8
    have hm : m ≠ 0 := by intro h0; subst h0; rw [mlen_zero] at hj; omega
    have hs := mlen_step hm h
    have e1 : Int.tmod (m : Int) 256 % 256 = ((m % 256 : Nat) : Int) := by rw [Int.tmod_eq_emod_of_nonneg (by omega)]; omega
    have e2 : IntKind.u64.wrap (Int.tdiv (m : Int) 256) = ((m / 256 : Nat) : Int) := by rw [Int.tdiv_eq_ediv_of_nonneg (by omega), w_u64]; omega
    rw [← Nat.add_assoc, bourneref02_digits.l0, if_pos (by omega), e1, Option.bind_some, if_pos (by simp; omega), e2, beR_snoc, uh_append, List.append_assoc]
    have hl : ([((m % 256 : Nat) : Int)] ++ acc).length = acc.length + 1 := by simp [Nat.add_comm]
    rw [ih (m / 256) k ([((m % 256 : Nat) : Int)] ++ acc) (by omega) (by omega) (by omega) (by omega)]
    simp [uh]
theorem map255 (l : List UInt8) (d : Nat) : ∀ (i k : Nat) (pre : List UInt8), i + d = l.length → l.length ≤ 100 → pre.length ≤ i + 10 → bourneref02_Int.l0 (k + d + 1) (uh l) (uh pre) i = some (mkB (pre ++ (l.drop i).map inv)) := by
  induction d with
  | zero =>
    intro i k pre hi hl hp
    rw [bourneref02_Int.l0, if_neg (by rw [uh_length]; omega), str_uh, List.drop_of_length_le (by omega)]
    simp
  | succ d ih =>
    intro i k pre hi hl hp
    have hlt : i < l.length := by omega
    have hg : rd (uh l) (i : Int) = (l[i].toNat : Int) := by
      show (uh l).getD ((i : Int)).toNat 0 = _
      rw [Int.toNat_natCast, List.getD_eq_getElem?_getD, uh, List.getElem?_map, List.getElem?_eq_getElem hlt]; rfl
    have hc := l[i].toNat_lt
    have e : (255 - (l[i].toNat : Int)) % 256 = ((inv l[i]).toNat : Int) := by rw [inv_toNat]; omega
    rw [← Nat.add_assoc, bourneref02_Int.l0, if_pos (by rw [uh_length]; omega), if_pos (by omega), if_pos (by rw [uh_length]; omega), hg, e, w64 (x := (i : Int) + 1) (by omega) (by omega)]
    have e2 : uh pre ++ [((inv l[i]).toNat : Int)] = uh (pre ++ [inv l[i]]) := by simp [uh]
    rw [e2]
    have := ih (i + 1) k (pre ++ [inv l[i]]) (by omega) hl (by simp; omega)
    rw [show (((i + 1 : Nat) : Int)) = (i : Int) + 1 by omega] at this
    rw [this, List.drop_eq_getElem_cons hlt, List.map_cons, List.append_assoc]
    rfl
theorem ref_Int_eq (n : Int) (h : InR n) (k : Nat) : bourneref02_Int.f (k + 20) n = some (mkB (intB n)) := by
  obtain ⟨h1, h2⟩ := h
  by_cases hn : 0 ≤ n
  · obtain ⟨m, rfl⟩ := Int.eq_ofNat_of_zero_le hn
    have h8 := mlen_le8 (m := m) (pow8 (by omega))
    have e1 : IntKind.u64.wrap (m : Int) = (m : Int) := by rw [w_u64]; omega
    have hd : bourneref02_digits.f (k + 20) (m : Int) = some (uh (beR (mlen m) m)) := by
      have := digits_eq (mlen m) m (k + 19 - mlen m) [] (by omega) rfl (by simp; omega) h8
      rw [show k + 19 - mlen m + mlen m + 1 = k + 20 by omega, List.append_nil] at this
      exact this
    unfold bourneref02_Int.f
    rw [if_pos (by omega), e1, hd, Option.bind_some, Option.bind_some, uh_length, beR_length, if_pos (by simp; omega)]
    have e2 : ([(wrap64 (128 + (mlen m : Int))) % 256] : List Int) = uh [UInt8.ofNat (128 + mlen m)] := by
      rw [w64 (x := 128 + (mlen m : Int)) (by omega) (by omega)]
      simp only [uh, List.map_cons, List.map_nil, UInt8.toNat_ofNat']
      congr 1
    rw [e2, ← uh_append, str_uh, intB_pos]
    rfl
  · obtain ⟨m, hm⟩ : ∃ m : Nat, n = -1 - (m : Int) := ⟨(-1 - n).toNat, by omega⟩
    subst hm
    have h8 := mlen_le8 (m := m) (pow8 (by omega))
    have e1 : IntKind.u64.wrap (wrap64 (-(wrap64 (-1 - (m : Int) + 1)))) = (m : Int) := by
      rw [w64 (x := -1 - (m : Int) + 1) (by omega) (by omega), w64 (by omega) (by omega), w_u64]; omega
    have hd : bourneref02_digits.f (k + 20) (m : Int) = some (uh (beR (mlen m) m)) := by
      have := digits_eq (mlen m) m (k + 19 - mlen m) [] (by omega) rfl (by simp; omega) h8
      rw [show k + 19 - mlen m + mlen m + 1 = k + 20 by omega, List.append_nil] at this
      exact this
    unfold bourneref02_Int.f
    rw [if_neg (by omega), e1, hd, Option.bind_some, uh_length, beR_length]
    have e2 : ([(wrap64 (127 - (mlen m : Int))) % 256] : List Int) = uh [UInt8.ofNat (127 - mlen m)] := by
      rw [w64 (x := 127 - (mlen m : Int)) (by omega) (by omega)]
      simp only [uh, List.map_cons, List.map_nil, UInt8.toNat_ofNat']
      congr 1
      omega
    rw [e2, intB_neg]
    have := map255 (beR (mlen m) m) (mlen m) 0 (k + 19 - mlen m) [UInt8.ofNat (127 - mlen m)] (by rw [beR_length]; omega) (by rw [beR_length]; omega) (by simp)
    rw [show k + 19 - mlen m + mlen m + 1 = k + 20 by omega] at this
    exact this
theorem ref_Text_loop (s : ByteArray) (hs : s.size ≤ 1000000) (d : Nat) : ∀ (i k : Nat) (pre : List UInt8), i + d = s.data.toList.length → pre.length ≤ 2 * i → bourneref02_Text.l0 (k + d + 1) s (uh pre) i = some (mkB (pre ++ textB (s.data.toList.drop i))) := by
  have hz : s.size = s.data.toList.length := (len_size s).symm
  induction d with
  | zero =>
    intro i k pre hi hp
    rw [bourneref02_Text.l0, if_neg (by omega), Option.bind_some, if_pos (by rw [uh_length]; simp; omega), List.drop_of_length_le (by omega)]
    have e : uh pre ++ [0, 1] = uh (pre ++ [0, 1]) := by simp [uh]
    rw [e, str_uh]; rfl
  | succ d ih =>
    intro i k pre hi hp
    have hlt : i < s.data.toList.length := by omega
    have hc := s.data.toList[i].toNat_lt
    have e1 : uh pre ++ [(s.data.toList[i].toNat : Int)] = uh (pre ++ [s.data.toList[i]]) := by simp [uh]
    have ew : wrap64 ((i : Int) + 1) = ((i + 1 : Nat) : Int) := by rw [w64 (by omega) (by omega)]; omega
    rw [← Nat.add_assoc, bourneref02_Text.l0, if_pos (by omega), if_pos (by omega), if_pos (by rw [uh_length]; omega), bt_get s i hlt, Option.bind_some, e1, ew, List.drop_eq_getElem_cons hlt, textB_cons]
    by_cases h0 : s.data.toList[i] = 0
    · have e2 : uh (pre ++ [s.data.toList[i]]) ++ [255] = uh (pre ++ [0, 255]) := by rw [h0]; simp [uh]
      rw [if_pos (by rw [h0]; rfl), if_pos (by rw [uh_length]; simp; omega), e2, ih (i + 1) k (pre ++ [0, 255]) (by omega) (by simp; omega), if_pos h0, List.append_assoc]
    · have hne : ¬ (s.data.toList[i].toNat : Int) = 0 := by
        intro h
        apply h0
        have : s.data.toList[i].toNat = 0 := by omega
        rw [← UInt8.toNat_inj, this]; rfl
      rw [if_neg hne, ih (i + 1) k _ (by omega) (by simp; omega), if_neg h0, List.append_assoc]
theorem ref_Text_eq (s : ByteArray) (hs : s.size ≤ 1000000) (k : Nat) (hk : s.size < k) : bourneref02_Text.f k s = some (mkB (textB s.data.toList)) := by
  have hz : s.size = s.data.toList.length := (len_size s).symm
  have := ref_Text_loop s hs s.data.toList.length 0 (k - 1 - s.size) [] (by omega) (by simp)
  rw [show k - 1 - s.size + s.data.toList.length + 1 = k by omega] at this
  exact this
theorem mkB_append (a b : List UInt8) : mkB a ++ mkB b = mkB (a ++ b) := by
  apply ext_; rw [Go.Joins.data_append]
theorem rd_nat {xs : List Int} (i : Nat) (h : i < xs.length) : rd xs (i : Int) = xs[i] := by
  show xs.getD ((i : Int)).toNat 0 = _
  rw [Int.toNat_natCast, List.getD_eq_getElem?_getD, List.getElem?_eq_getElem h]; rfl
theorem rdOf_nat {xs : List ByteArray} (i : Nat) (h : i < xs.length) : rdOf ByteArray.empty xs (i : Int) = xs[i] := by
  show xs.getD ((i : Int)).toNat _ = _
  rw [Int.toNat_natCast, List.getD_eq_getElem?_getD, List.getElem?_eq_getElem h]; rfl
theorem ref_Nums_loop (l : List Int) (hr : ∀ x ∈ l, InR x) (hl : l.length ≤ 100000) (d : Nat) : ∀ (i k : Nat) (pre : List UInt8), i + d = l.length → pre.length ≤ 10 * i → bourneref02_Nums.l0 (k + 20 + d + 1) l (mkB pre) i = some (mkB (pre ++ numsB (l.drop i))) := by
  induction d with
  | zero =>
    intro i k pre hi hp
    rw [bourneref02_Nums.l0, if_neg (by omega), if_pos (by rw [mkB_size]; omega), List.drop_of_length_le (by omega)]
    congr 1
  | succ d ih =>
    intro i k pre hi hp
    have hlt : i < l.length := by omega
    have h9 := intB_length l[i] (hr _ (List.getElem_mem hlt))
    have ew : wrap64 ((i : Int) + 1) = ((i + 1 : Nat) : Int) := by rw [w64 (by omega) (by omega)]; omega
    have e1 : mkB pre ++ (⟨#[1]⟩ : ByteArray) = mkB (pre ++ [1]) := mkB_append pre [1]
    rw [← Nat.add_assoc, bourneref02_Nums.l0, if_pos (by omega), if_pos (by rw [mkB_size]; omega), if_pos (by omega), rd_nat i hlt, show k + 20 + d + 1 = (k + d + 1) + 20 by omega, ref_Int_eq _ (hr _ (List.getElem_mem hlt)), Option.bind_some, e1, if_pos (by rw [mkB_size, mkB_size]; simp; omega), mkB_append, ew,
      show (k + d + 1) + 20 = k + 20 + d + 1 by omega, ih (i + 1) k _ (by omega) (by simp; omega), List.drop_eq_getElem_cons hlt]
    congr 2
    show pre ++ [1] ++ _ ++ listB _ _ = pre ++ listB _ (_ :: _)
    rw [listB_cons, List.append_assoc, List.append_assoc]
    rfl
theorem ref_Nums_eq (l : List Int) (hr : ∀ x ∈ l, InR x) (hl : l.length ≤ 100000) : bourneref02_Nums.f (0 + 20 + l.length + 1) l = some (mkB (numsB l)) := ref_Nums_loop l hr hl l.length 0 0 [] (by omega) (by simp)
def lists (l : List ByteArray) : List (List UInt8) := l.map (·.data.toList)
theorem ref_Texts_loop (l : List ByteArray) (hr : ∀ x ∈ l, x.size ≤ 100000) (hl : l.length ≤ 100000) (d : Nat) : ∀ (i k : Nat) (pre : List UInt8), i + d = l.length → pre.length ≤ 200003 * i → bourneref02_Texts.l0 (k + 100001 + d + 1) l (mkB pre) i = some (mkB (pre ++ textsB ((lists l).drop i))) := by
  induction d with
  | zero =>
    intro i k pre hi hp
    rw [bourneref02_Texts.l0, if_neg (by omega), if_pos (by rw [mkB_size]; omega), List.drop_of_length_le (by unfold lists; rw [List.length_map]; omega)]
    congr 1
  | succ d ih =>
    intro i k pre hi hp
    have hlt : i < l.length := by omega
    have hsz := hr _ (List.getElem_mem hlt)
    have h9 := textB_length l[i].data.toList
    rw [len_size] at h9
    have ew : wrap64 ((i : Int) + 1) = ((i + 1 : Nat) : Int) := by rw [w64 (by omega) (by omega)]; omega
    have e1 : mkB pre ++ (⟨#[1]⟩ : ByteArray) = mkB (pre ++ [1]) := mkB_append pre [1]
    have hlm : i < (lists l).length := by unfold lists; rw [List.length_map]; exact hlt
    have hgm : (lists l)[i] = l[i].data.toList := by simp [lists]
    rw [← Nat.add_assoc, bourneref02_Texts.l0, if_pos (by omega), if_pos (by rw [mkB_size]; omega), if_pos (by omega), rdOf_nat i hlt, ref_Text_eq _ (by omega) _ (by omega), Option.bind_some, e1, if_pos (by rw [mkB_size, mkB_size]; simp; omega), mkB_append, ew,
      ih (i + 1) k _ (by omega) (by simp; omega), List.drop_eq_getElem_cons hlm, hgm]
    congr 2
    show pre ++ [1] ++ _ ++ listB _ _ = pre ++ listB _ (_ :: _)
    rw [listB_cons, List.append_assoc, List.append_assoc]
    rfl
theorem ref_Texts_eq (l : List ByteArray) (hr : ∀ x ∈ l, x.size ≤ 100000) (hl : l.length ≤ 100000) : bourneref02_Texts.f (0 + 100001 + l.length + 1) l = some (mkB (textsB (lists l))) := ref_Texts_loop l hr hl l.length 0 0 [] (by omega) (by simp)
end Go.Proofs.YtdgejkiackeieaaDoor.Wr
end
section
set_option linter.unusedVariables false
set_option linter.unusedSimpArgs false
/- What the reference's printed readers of layer 2 compute, in the encoding's plain words. -/
set_option linter.unusedVariables false
set_option linter.unusedSimpArgs false
namespace Go.Proofs.YtdgejkiackeieaaDoor.Wr
open Go.RowKit Go.Proofs.YtdgejkiackeieaaDoor.PWr Go.Proofs.YtdgejkiackeieaaDoorW.PrintWords Go.Proofs.YtdgejkiackeieaaDoorW.PrintMore
/-- A reader's answer for a string. -/
def rdrS (o : Option (List UInt8 × List UInt8)) (bad : Bool) : ByteArray × ByteArray × Bool := match o with | some (x, r) => (mkB x, mkB r, bad) | none => (mkB [], mkB [], true)
def rdrSp (pre : List UInt8) (o : Option (List UInt8 × List UInt8)) (bad : Bool) : ByteArray × ByteArray × Bool := match o with | some (x, r) => (mkB (pre ++ x), mkB r, bad) | none => (mkB [], mkB [], true)
theorem rdrSp_map (pre : List UInt8) (c : UInt8) (o : Option (List UInt8 × List UInt8)) (bad : Bool) : rdrSp pre (o.map fun p => (c :: p.1, p.2)) bad = rdrSp (pre ++ [c]) o bad := by
  cases o with
  | none => rfl
  | some p => simp [rdrSp]
theorem byte_eq_iff (c : UInt8) (n : Nat) (hn : n < 256) : ((c.toNat : Int) = (n : Int)) ↔ c = UInt8.ofNat n := by
  constructor
  · intro h
    rw [← UInt8.toNat_inj, UInt8.toNat_ofNat', Nat.mod_eq_of_lt hn]; omega
  · intro h
    rw [h, UInt8.toNat_ofNat', Nat.mod_eq_of_lt hn]
/-- A reader's answer for a list. -/
def rdrL {α β : Type} (g : α → β) (acc : List β) (o : Option (List α × List UInt8)) (bad : Bool) : List β × ByteArray × Bool := match o with | some (xs, r) => (acc ++ xs.map g, mkB r, bad) | none => ([], mkB [], true)
theorem rdrL_map {α β : Type} (g : α → β) (acc : List β) (x : α) (o : Option (List α × List UInt8)) (bad : Bool) : rdrL g acc (o.map fun p => (x :: p.1, p.2)) bad = rdrL g (acc ++ [g x]) o bad := by
  cases o with
  | none => rfl
  | some p => simp [rdrL]
/-- The states that a reader can come to: once it has failed nothing is left. -/
def Okr (s : ByteArray) (bad : Bool) : Prop := bad = true → s = mkB []
theorem SameNums_loop (a b : List Int) (hl : a.length = b.length) (hm : a.length ≤ 1000000) (d : Nat) : ∀ (i k : Nat), i + d = a.length → bourneref02_SameNums.l0 (k + d + 1) a b i = some (decide (a.drop i = b.drop i)) := by
  induction d with
  | zero =>
    intro i k hi
    rw [bourneref02_SameNums.l0, if_neg (by omega), List.drop_of_length_le (by omega), List.drop_of_length_le (by omega)]
    rfl
  | succ d ih =>
    intro i k hi
    have h1 : i < a.length := by omega
    have h2 : i < b.length := by omega
    have ew : wrap64 ((i : Int) + 1) = ((i + 1 : Nat) : Int) := by rw [w64 (by omega) (by omega)]; omega
    rw [← Nat.add_assoc, bourneref02_SameNums.l0, if_pos (by omega), if_pos (by omega), if_pos (by omega), rd_nat i h1, rd_nat i h2, ew]
    have hcons : (a.drop i = b.drop i) ↔ (a[i] = b[i] ∧ a.drop (i + 1) = b.drop (i + 1)) := by
      rw [List.drop_eq_getElem_cons h1, List.drop_eq_getElem_cons h2, List.cons_eq_cons]
    by_cases he : a[i] = b[i]
    · rw [if_pos he, ih (i + 1) k (by omega)]
      exact congrArg some (decide_eq_decide.2 ⟨fun h => hcons.2 ⟨he, h⟩, fun h => (hcons.1 h).2⟩)
    · rw [if_neg he, decide_eq_false (fun h => he (hcons.1 h).1)]
theorem SameNums_eq (a b : List Int) (hm : a.length ≤ 1000000) : bourneref02_SameNums.f (a.length + 1) a b = some (decide (a = b)) := by
  unfold bourneref02_SameNums.f
  by_cases hl : a.length = b.length
  · rw [if_pos (by omega)]
    have := SameNums_loop a b hl hm a.length 0 0 (by omega)
    rw [Nat.zero_add] at this
    exact this
  · rw [if_neg (by omega)]
    have : ¬ a = b := fun h => hl (by rw [h])
    rw [decide_eq_false this]
theorem SameTexts_loop (a b : List ByteArray) (hl : a.length = b.length) (hm : a.length ≤ 1000000) (d : Nat) : ∀ (i k : Nat), i + d = a.length → bourneref02_SameTexts.l0 (k + d + 1) a b i = some (decide (a.drop i = b.drop i)) := by
  induction d with
  | zero =>
    intro i k hi
    rw [bourneref02_SameTexts.l0, if_neg (by omega), List.drop_of_length_le (by omega), List.drop_of_length_le (by omega)]
    rfl
  | succ d ih =>
    intro i k hi
    have h1 : i < a.length := by omega
    have h2 : i < b.length := by omega
    have ew : wrap64 ((i : Int) + 1) = ((i + 1 : Nat) : Int) := by rw [w64 (by omega) (by omega)]; omega
    rw [← Nat.add_assoc, bourneref02_SameTexts.l0, if_pos (by omega), if_pos (by omega), if_pos (by omega), rdOf_nat i h1, rdOf_nat i h2, ew]
    have hcons : (a.drop i = b.drop i) ↔ (a[i] = b[i] ∧ a.drop (i + 1) = b.drop (i + 1)) := by
      rw [List.drop_eq_getElem_cons h1, List.drop_eq_getElem_cons h2, List.cons_eq_cons]
    by_cases he : a[i] = b[i]
    · rw [if_pos (by rw [he]), ih (i + 1) k (by omega)]
      exact congrArg some (decide_eq_decide.2 ⟨fun h => hcons.2 ⟨he, h⟩, fun h => (hcons.1 h).2⟩)
    · have hn : ¬ a[i].toList = b[i].toList := by
        intro h
        rw [ByteArray.toList_eq, ByteArray.toList_eq] at h
        exact he (ext_ h)
      rw [if_neg hn, decide_eq_false (fun h => he (hcons.1 h).1)]
theorem SameTexts_eq (a b : List ByteArray) (hm : a.length ≤ 1000000) : bourneref02_SameTexts.f (a.length + 1) a b = some (decide (a = b)) := by
  unfold bourneref02_SameTexts.f
  by_cases hl : a.length = b.length
  · rw [if_pos (by omega)]
    have := SameTexts_loop a b hl hm a.length 0 0 (by omega)
    rw [Nat.zero_add] at this
    exact this
  · rw [if_neg (by omega)]
    have : ¬ a = b := fun h => hl (by rw [h])
    rw [decide_eq_false this]
end Go.Proofs.YtdgejkiackeieaaDoor.Wr
end
section
set_option linter.unusedVariables false
set_option linter.unusedSimpArgs false
/- strings.ReplaceAll as a plain scan from the left. -/
set_option linter.unusedVariables false
set_option linter.unusedSimpArgs false
namespace Go.Proofs.YtdgejkiackeieaaDoor
/-- What ReplaceAll does: at each place, from the left, an instance is replaced, any other byte is kept. -/
def scan (old new : List UInt8) : Nat → List UInt8 → List UInt8
  | 0, s => s
  | _ + 1, [] => []
  | f + 1, b :: l => if old.isPrefixOf (b :: l) then new ++ scan old new f ((b :: l).drop old.length) else b :: scan old new f l
theorem scan_nil (old new : List UInt8) (f : Nat) : scan old new f [] = [] := by cases f <;> rfl
theorem scan_miss (old new : List UInt8) : ∀ (s : List UInt8) (f : Nat), Lib.index s old = -1 → scan old new f s = s := by
  intro s
  induction s with
  | nil => intro f _; exact scan_nil old new f
  | cons b l ih =>
    intro f h
    cases f with
    | zero => rfl
    | succ f =>
      have hg := Lib.index_ge l old
      rw [Lib.index] at h
      rw [scan]
      by_cases hp : old.isPrefixOf (b :: l) = true
      · rw [if_pos hp] at h; cases h
      · rw [if_neg hp] at h
        by_cases hm : (Lib.index l old == -1) = true
        · rw [if_neg hp, ih f (beq_iff_eq.1 hm)]
        · rw [if_neg hm] at h; omega
theorem scan_hit (old new : List UInt8) : ∀ (s : List UInt8) (f i : Nat), s.length ≤ f → Lib.index s old = (i : Int) → s ≠ [] → ∃ f', s.length ≤ f' + i + 1 ∧ scan old new f s = s.take i ++ new ++ scan old new f' (s.drop (i + old.length)) := by
  intro s
  induction s with
  | nil => intro f i _ _ h; exact absurd rfl h
  | cons b l ih =>
    intro f i hf h _
    simp only [List.length_cons] at hf
    obtain ⟨f, rfl⟩ : ∃ m, f = m + 1 := ⟨f - 1, by omega⟩
    have hg := Lib.index_ge l old
    rw [Lib.index] at h
    rw [scan]
    by_cases hp : old.isPrefixOf (b :: l) = true
    · rw [if_pos hp] at h
      obtain rfl : i = 0 := by omega
      refine ⟨f, by simp only [List.length_cons]; omega, ?_⟩
      rw [if_pos hp, List.take_zero, Nat.zero_add]
      rfl
    · rw [if_neg hp] at h
      by_cases hm : (Lib.index l old == -1) = true
      · rw [if_pos hm] at h; omega
      · rw [if_neg hm] at h
        obtain ⟨j, rfl⟩ : ∃ j, i = j + 1 := ⟨i - 1, by have : Lib.index l old ≠ -1 := fun e => hm (beq_iff_eq.2 e); omega⟩
        have hj : Lib.index l old = (j : Int) := by omega
        by_cases hln : l = []
        · subst hln
          -- old is not empty here, for it is no prefix of what follows
          rw [Lib.index] at hj
          by_cases he : old.isEmpty = true
          · have : old = [] := by simpa using he
            subst this
            simp at hp
          · rw [if_neg he] at hj; omega
        · obtain ⟨f', h1, h2⟩ := ih f j (by omega) hj hln
          refine ⟨f', by simp only [List.length_cons]; omega, ?_⟩
          rw [if_neg hp, h2, List.take_succ_cons, show j + 1 + old.length = (j + old.length) + 1 by omega, List.drop_succ_cons]
          rfl
theorem replaceK_scan (old new : List UInt8) (ho : old ≠ []) : ∀ (n : Nat) (s : List UInt8) (f : Nat), s.length ≤ n → s.length ≤ f → Lib.replaceK old new (Lib.count s old) s = scan old new f s := by
  have hl : 0 < old.length := List.length_pos_iff.2 ho
  intro n
  induction n with
  | zero =>
    intro s f h _
    obtain rfl : s = [] := List.eq_nil_of_length_eq_zero (by omega)
    have hi : Lib.index [] old = -1 := by
      rw [Lib.index, if_neg]; simpa using ho
    rw [Lib.count_miss hi, scan_nil]; rfl
  | succ n ih =>
    intro s f h hf
    by_cases hm : Lib.index s old = -1
    · rw [Lib.count_miss hm, scan_miss old new s f hm]; rfl
    · obtain ⟨i, hi⟩ : ∃ i : Nat, Lib.index s old = (i : Int) := ⟨(Lib.index s old).toNat, by have := Lib.index_ge s old; omega⟩
      by_cases hs : s = []
      · subst hs
        rw [Lib.index, if_neg (by simpa using ho)] at hi; omega
      obtain ⟨f', h1, h2⟩ := scan_hit old new s f i hf hi hs
      rw [h2, Lib.count_hit ho hi, Nat.add_comm 1, Lib.replaceK_hit old new _ s i hi]
      have hs0 : 0 < s.length := List.length_pos_iff.2 hs
      rw [ih (s.drop (i + old.length)) f' (by rw [List.length_drop]; omega) (by rw [List.length_drop]; omega)]
theorem scan_self (old : List UInt8) : ∀ (f : Nat) (s : List UInt8), scan old old f s = s := by
  intro f
  induction f with
  | zero => intro s; rfl
  | succ f ih =>
    intro s
    cases s with
    | nil => rfl
    | cons b l =>
      rw [scan]
      by_cases hp : old.isPrefixOf (b :: l) = true
      · rw [if_pos hp, ih]
        obtain ⟨t, ht⟩ := List.isPrefixOf_iff_prefix.1 hp
        rw [← ht, List.drop_left]
      · rw [if_neg hp, ih]
theorem replaceAll_scan (s old new : List UInt8) (ho : old ≠ []) : Lib.replaceAll s old new = scan old new s.length s := by
  unfold Lib.replaceAll Lib.replace
  by_cases he : (old == new) = true
  · rw [if_pos he, ← beq_iff_eq.1 he, scan_self]
  · rw [if_neg he]
    have : Lib.replaceNum s old (-1) = Lib.count s old := by unfold Lib.replaceNum; rw [if_pos (Or.inl (by decide))]
    rw [this, replaceK_scan old new ho s.length s s.length (Nat.le_refl _) (Nat.le_refl _)]
/-- At one byte. -/
theorem replaceAll_one (s : List UInt8) (c : UInt8) (new : List UInt8) : Lib.replaceAll s [c] new = s.flatMap fun b => if b = c then new else [b] := by
  rw [replaceAll_scan s [c] new (by simp)]
  have : ∀ (s : List UInt8) (f : Nat), s.length ≤ f → scan [c] new f s = s.flatMap fun b => if b = c then new else [b] := by
    intro s
    induction s with
    | nil => intro f _; rw [scan_nil]; rfl
    | cons b l ih =>
      intro f hf
      simp only [List.length_cons] at hf
      obtain ⟨f, rfl⟩ : ∃ m, f = m + 1 := ⟨f - 1, by omega⟩
      rw [scan, List.flatMap_cons]
      by_cases hb : b = c
      · subst hb
        rw [if_pos (by simp [List.isPrefixOf]), if_pos rfl]
        show new ++ scan _ _ f l = _
        rw [ih f (by omega)]
      · rw [if_neg (by simp [List.isPrefixOf]; exact fun h => hb h.symm), if_neg hb, ih f (by omega)]
        rfl
  exact this s s.length (Nat.le_refl _)
end Go.Proofs.YtdgejkiackeieaaDoor
end
section
set_option linter.unusedVariables false
set_option linter.unusedSimpArgs false
/- The library's contract of strings.ReplaceAll at this program's numbers. -/
set_option linter.unusedVariables false
namespace Go.Proofs
open Go.Shelf
def Tryd.lays155_ren : Go.Shelf.Ren := ⟨fun | 155 => 101 | 154 => 133 | 138 => 144 | 165 => 145 | 143 => 146 | 166 => 132 | 197 => 147 | 169 => 93 | 195 => 150 | 218 => 151 | 240 => 124 | 241 => 152 | 219 => 153 | 260 => 154 | 276 => 140 | 277 => 155 | 217 => 125 | 225 => 156 | 224 => 157 | 267 => 158 | 266 => 141 | 314 => 159 | n => n, fun | 9 => 9 | 3 => 3 | 4 => 4 | 72 => 91 | 0 => 0 | 76 => 138 | 105 => 149 | 21 => 21 | 5 => 5 | 70 => 89 | 20 => 20 | 37 => 30 | 75 => 93 | 127 => 125 | 164 => 144 | 46 => 64 | 119 => 155 | 139 => 158 | 138 => 157 | 146 => 151 | 51 => 97 | 80 => 71 | n => n, fun | 1 => 4 | 3 => 5 | 4 => 6 | n => n⟩
theorem Tryd.lays155 : Go.Proofs.Lays.n155 Tryd.prog Tryd.lays155_ren := {
  mixed := by kernel_rfl
  f138 := Tryd.func144.trans (congrArg some (by kernel_rfl))
  f143 := Tryd.func146.trans (congrArg some (by kernel_rfl))
  f154 := Tryd.func133.trans (congrArg some (by kernel_rfl))
  f155 := Tryd.func101.trans (congrArg some (by kernel_rfl))
  f165 := Tryd.func145.trans (congrArg some (by kernel_rfl))
  f166 := Tryd.func132.trans (congrArg some (by kernel_rfl))
  f169 := Tryd.func93.trans (congrArg some (by kernel_rfl))
  f195 := Tryd.func150.trans (congrArg some (by kernel_rfl))
  f197 := Tryd.func147.trans (congrArg some (by kernel_rfl))
  f217 := Tryd.func125.trans (congrArg some (by kernel_rfl))
  f218 := Tryd.func151.trans (congrArg some (by kernel_rfl))
  f219 := Tryd.func153.trans (congrArg some (by kernel_rfl))
  f224 := Tryd.func157.trans (congrArg some (by kernel_rfl))
  f225 := Tryd.func156.trans (congrArg some (by kernel_rfl))
  f240 := Tryd.func124.trans (congrArg some (by kernel_rfl))
  f241 := Tryd.func152.trans (congrArg some (by kernel_rfl))
  f260 := Tryd.func154.trans (congrArg some (by kernel_rfl))
  f266 := Tryd.func141.trans (congrArg some (by kernel_rfl))
  f267 := Tryd.func158.trans (congrArg some (by kernel_rfl))
  f276 := Tryd.func140.trans (congrArg some (by kernel_rfl))
  f277 := Tryd.func155.trans (congrArg some (by kernel_rfl))
  f314 := Tryd.func159.trans (congrArg some (by kernel_rfl))
  t0 := Tryd.underlying0
  a0 := Tryd.isAgg0
  z0 := Tryd.sizeOf0
  v0 := Tryd.zeroValue0
  t3 := Tryd.underlying3
  a3 := Tryd.isAgg3
  z3 := Tryd.sizeOf3
  v3 := Tryd.zeroValue3
  t4 := Tryd.underlying4
  a4 := Tryd.isAgg4
  z4 := Tryd.sizeOf4
  v4 := Tryd.zeroValue4
  t5 := Tryd.underlying5
  a5 := Tryd.isAgg5
  z5 := Tryd.sizeOf5
  v5 := Tryd.zeroValue5
  t9 := Tryd.underlying9
  a9 := Tryd.isAgg9
  z9 := Tryd.sizeOf9
  v9 := Tryd.zeroValue9
  t20 := Tryd.underlying20
  a20 := Tryd.isAgg20
  z20 := Tryd.sizeOf20
  v20 := Tryd.zeroValue20
  t21 := Tryd.underlying21
  a21 := Tryd.isAgg21
  z21 := Tryd.sizeOf21
  v21 := Tryd.zeroValue21
  t37 := Tryd.underlying30
  a37 := Tryd.isAgg30
  z37 := Tryd.sizeOf30
  v37 := Tryd.zeroValue30
  t46 := Tryd.underlying64
  a46 := Tryd.isAgg64
  z46 := Tryd.sizeOf64
  v46 := Tryd.zeroValue64
  t51 := Tryd.underlying97
  a51 := Tryd.isAgg97
  z51 := Tryd.sizeOf97
  v51 := Tryd.zeroValue97
  t70 := Tryd.underlying89
  a70 := Tryd.isAgg89
  z70 := Tryd.sizeOf89
  v70 := Tryd.zeroValue89
  t72 := Tryd.underlying91
  a72 := Tryd.isAgg91
  z72 := Tryd.sizeOf91
  v72 := Tryd.zeroValue91
  t75 := Tryd.underlying93
  a75 := Tryd.isAgg93
  z75 := Tryd.sizeOf93
  v75 := Tryd.zeroValue93
  t76 := Tryd.underlying138
  a76 := Tryd.isAgg138
  z76 := Tryd.sizeOf138
  v76 := Tryd.zeroValue138
  t105 := Tryd.underlying149
  a105 := Tryd.isAgg149
  z105 := Tryd.sizeOf149
  v105 := Tryd.zeroValue149
  t119 := Tryd.underlying155
  a119 := Tryd.isAgg155
  z119 := Tryd.sizeOf155
  t127 := Tryd.underlying125
  a127 := Tryd.isAgg125
  z127 := Tryd.sizeOf125
  v127 := Tryd.zeroValue125
  t138 := Tryd.underlying157
  a138 := Tryd.isAgg157
  z138 := Tryd.sizeOf157
  v138 := Tryd.zeroValue157
  t139 := Tryd.underlying158
  a139 := Tryd.isAgg158
  z139 := Tryd.sizeOf158
  v139 := Tryd.zeroValue158
  t146 := Tryd.underlying151
  a146 := Tryd.isAgg151
  z146 := Tryd.sizeOf151
  v146 := Tryd.zeroValue151
  t164 := Tryd.underlying144
  a164 := Tryd.isAgg144
  z164 := Tryd.sizeOf144
  v164 := Tryd.zeroValue144
  g1 := by kernel_rfl
  g3 := by kernel_rfl
  g4 := by kernel_rfl }
theorem Tryd.Builder_Extra_155 : Builder.Extra Tryd.prog Tryd.lays155_ren := {
  sizeBuilder := by kernel_rfl
  liesBuilder := by kernel_rfl
  t5 := Tryd.underlying5
  a5 := Tryd.isAgg5
  z5 := Tryd.sizeOf5
  v5 := Tryd.zeroValue5
  infoByte := by kernel_rfl
  cellsByte := by kernel_rfl
  sizeByte := by kernel_rfl
  neB5 := by decide }
open Go.RowKit Go.Lib in
theorem Tryd.strings_ReplaceAll (s old new : ByteArray) (m : Int) (w : World) (hs : s.size < 4294967281) (hm : w.cell? ⟨4, 0, none⟩ = some (.int .i64 m)) (h1 : 1 ≤ old.size) (hlen : s.size + Lib.countB s old * new.size ≤ 140737488355328) :
    Calls Tryd.prog 101 #[.string s, .string old, .string new] w fun e w' =>
      e = .returned (.string ⟨(Lib.replaceAll s.data.toList old.data.toList new.data.toList).toArray⟩) ∧ Below w.heap.size w w' := Any.strings_ReplaceAll Tryd.lays155 Tryd.Builder_Extra_155 s old new m w hs hm h1 hlen
end Go.Proofs
end
section
set_option linter.unusedVariables false
set_option linter.unusedSimpArgs false
/- The library's contracts of (*strings.Builder).String and strings.IndexByte at this program's numbers. -/
set_option linter.unusedVariables false
namespace Go.Proofs
open Go.Shelf
def Tryd.lays169_ren : Go.Shelf.Ren := ⟨fun | 169 => 93 | n => n, fun | 70 => 89 | 9 => 9 | 0 => 0 | 72 => 91 | 37 => 30 | 127 => 125 | 3 => 3 | 5 => 5 | n => n, fun | n => n⟩
theorem Tryd.lays169 : Go.Proofs.Lays.n169 Tryd.prog Tryd.lays169_ren := {
  mixed := by kernel_rfl
  f169 := Tryd.func93.trans (congrArg some (by kernel_rfl))
  t0 := Tryd.underlying0
  a0 := Tryd.isAgg0
  z0 := Tryd.sizeOf0
  v0 := Tryd.zeroValue0
  t3 := Tryd.underlying3
  a3 := Tryd.isAgg3
  z3 := Tryd.sizeOf3
  v3 := Tryd.zeroValue3
  t9 := Tryd.underlying9
  a9 := Tryd.isAgg9
  z9 := Tryd.sizeOf9
  v9 := Tryd.zeroValue9
  t37 := Tryd.underlying30
  a37 := Tryd.isAgg30
  z37 := Tryd.sizeOf30
  v37 := Tryd.zeroValue30
  t70 := Tryd.underlying89
  a70 := Tryd.isAgg89
  z70 := Tryd.sizeOf89
  v70 := Tryd.zeroValue89
  t72 := Tryd.underlying91
  a72 := Tryd.isAgg91
  z72 := Tryd.sizeOf91
  v72 := Tryd.zeroValue91
  t127 := Tryd.underlying125
  a127 := Tryd.isAgg125
  z127 := Tryd.sizeOf125
  v127 := Tryd.zeroValue125 }
theorem Tryd.Builder_Extra_169 : Builder.Extra Tryd.prog Tryd.lays169_ren := {
  sizeBuilder := by kernel_rfl
  liesBuilder := by kernel_rfl
  t5 := Tryd.underlying5
  a5 := Tryd.isAgg5
  z5 := Tryd.sizeOf5
  v5 := Tryd.zeroValue5
  infoByte := by kernel_rfl
  cellsByte := by kernel_rfl
  sizeByte := by kernel_rfl
  neB5 := by decide }
open Go.RowKit in
theorem Tryd.Builder_String_any_k (B b : Nat) (l : List UInt8) (w : World) (h : Lib.IsBuilderF 91 5 B b (Lib.byteCells l) w) (hBw : B ≤ w.heap.size) :
    Calls Tryd.prog 93 #[.pointer (some ⟨b, 0, none⟩)] w fun e w' => e = .returned (.string ⟨l.toArray⟩) ∧ (Lib.IsBuilderF 91 5 B b (Lib.byteCells l) w' ∧ Below B w w' ∧ Lib.OthersKept 5 (some b) w w') := Any.Builder_String_any_k Tryd.lays169 Tryd.Builder_Extra_169 B b l w h hBw
end Go.Proofs
end
section
set_option linter.unusedVariables false
set_option linter.unusedSimpArgs false
/- The contracts of strings.Builder's copyCheck, WriteByte and WriteString at this program: for every builder that the call itself has made. -/
namespace Go.Proofs.YtdgejkiackeieaaDoor
open Go.RowKit
theorem sizeBuilder : (Tryd.prog.info? 91).map (fun i => i.size) = some 2 := by kernel_rfl
theorem infoByte : (Tryd.prog.info? 5).map (fun i => (i.zero, i.size, i.bytes)) = some (some (.int .u8 0), 1, 1) := by kernel_rfl
set_option maxRecDepth 100000 in
theorem copyCheck_fresh (b : Nat) (v : Value) (w : World) (hb : w.heap[b]? = some (.cells #[.pointer none, v] 91 (0, 0))) :
    Calls Tryd.prog 124 #[.pointer (some ⟨b, 0, none⟩)] w fun e w' => e = .returned (.tuple #[]) ∧ w.setCell ⟨b, 0, none⟩ (.pointer (some ⟨b, 0, none⟩)) = w' := by
  obtain ⟨j, hj, hjs⟩ := Option.map_eq_some_iff.1 sizeBuilder
  have hc : w.cell? ⟨b, 0, none⟩ = some (.pointer none) := by rw [Lib.cell_of_heap hb]; rfl
  have hf : w.frozen? ⟨b, 0, none⟩ = false := Lib.frozen_of_heap hb 0
  have hsh : w.shape? b = some (91, 2) := by simp [World.shape?, hb]
  go_enter Tryd.func124, Tryd.ntmps124
  go_wp2
  rw [Lib.run_to_unsafe w ⟨b, 0, none⟩ Tryd.underlying89 Tryd.underlying144 hj (by rw [hjs]; decide) hsh (Nat.zero_lt_succ 1)]
  simp only [Result.andThen]
  rw [Oper.upon_value]
  go_wp2
  rw [run_callFunc_extern Tryd.func140 (by kernel_rfl) (by kernel_rfl) (by kernel_rfl) (e := Extern.AbiNoEscape.same) (by kernel_rfl)]
  rw [Lib.run_noEscape]
  simp only [Result.andThen]
  rw [Oper.upon_value]
  go_wp2
  rw [Lib.run_from_unsafe w ⟨b, 0, none⟩ Tryd.underlying144 Tryd.underlying89 hj hsh (by kernel_rfl)]
  simp only [Result.andThen]
  rw [Oper.upon_value]
  go_wp2
  go_end0
  exact ⟨rfl, rfl⟩
set_option maxRecDepth 100000 in
theorem copyCheck_used (b : Nat) (v : Value) (w : World) (hb : w.heap[b]? = some (.cells #[.pointer (some ⟨b, 0, none⟩), v] 91 (0, 0))) :
    Calls Tryd.prog 124 #[.pointer (some ⟨b, 0, none⟩)] w fun e w' => e = .returned (.tuple #[]) ∧ w = w' := by
  obtain ⟨j, hj, _⟩ := Option.map_eq_some_iff.1 sizeBuilder
  have hc : w.cell? ⟨b, 0, none⟩ = some (.pointer (some ⟨b, 0, none⟩)) := by rw [Lib.cell_of_heap hb]; rfl
  go_enter Tryd.func124, Tryd.ntmps124
  go_wp2
  rw [Lib.run_neq_ptr_same w _ Tryd.underlying89 hj]
  go_wp2
  go_end0
  exact ⟨rfl, rfl⟩
theorem copyCheck_any (B b : Nat) (bs : List Value) (w : World) (h : Lib.IsBuilderF 91 5 B b bs w) :
    Calls Tryd.prog 124 #[.pointer (some ⟨b, 0, none⟩)] w fun e w' => e = .returned (.tuple #[]) ∧ (Lib.BuilderAtF 91 5 B b (.pointer (some ⟨b, 0, none⟩)) bs w' ∧ Below B w w' ∧ Lib.OthersKept 5 (some b) w w') := by
  rcases h with h | h
  · have h' := h
    obtain ⟨hB, v, hb, _⟩ := h
    refine (copyCheck_fresh b v w hb).mono ?_
    rintro e w' ⟨rfl, rfl⟩
    exact ⟨rfl, h'.used _, (Below.refl B w).setCell (p := ⟨b, 0, none⟩) hB _, (Lib.OthersKept.refl _ _ w).setCell ⟨b, 0, none⟩ rfl _⟩
  · have h' := h
    obtain ⟨hB, v, hb, _⟩ := h
    refine (copyCheck_used b v w hb).mono ?_
    rintro e w' ⟨rfl, rfl⟩
    exact ⟨rfl, h', Below.refl B _, Lib.OthersKept.refl _ _ _⟩

set_option maxHeartbeats 2000000 in
set_option maxRecDepth 100000 in
theorem writeByte_any (B b : Nat) (bs : List Value) (c : Int) (w : World) (h : Lib.IsBuilderF 91 5 B b bs w) (hlen : bs.length + 1 ≤ 140737488355328) (hBw : B ≤ w.heap.size) :
    Calls Tryd.prog 92 #[.pointer (some ⟨b, 0, none⟩), .int .u8 c] w fun e w' => e = .returned .nilIface ∧ (Lib.BuilderAtF 91 5 B b (.pointer (some ⟨b, 0, none⟩)) (bs ++ [.int .u8 c]) w' ∧ Below B w w' ∧ Lib.OthersKept 5 (some b) w w') := by
  obtain ⟨i0, hi, hz0, hz1, hz2⟩ := info_parts infoByte
  go_enter Tryd.func92, Tryd.ntmps92
  go_wp2_with (go_at_call 124; refine (copyCheck_any B b bs _ h).mono ?_)
  rintro e w1 ⟨rfl, h1, hb1, hk1⟩
  obtain ⟨hB, v, hbk, hown, hne⟩ := h1
  have c0 : w1.cell? ⟨b, 0, none⟩ = some (.pointer (some ⟨b, 0, none⟩)) := by rw [Lib.cell_of_heap hbk]; rfl
  have c1 : w1.cell? ⟨b, 1, none⟩ = some v := by rw [Lib.cell_of_heap hbk]; rfl
  have hsz := hb1.size
  go_wp2_with (at_builtin; refine wpList_append_ownF _ rfl _ _ 30 rfl B 5 i0 (.int .u8 0) 1 1 Tryd.underlying30 hi hz0 hz1 hz2 rfl (by decide) _ _ _ rfl (hown.alloc _) ⟨w1.heap.size, 0, none⟩ 1 1 [.int .u8 c] rfl rfl ?c1 ?c2 ?c3 ?c4 ?c5 ?_)
  case c1 =>
    intro j u hj
    match j, hj with
    | 0, hj => simp at hj; subst hj; simp [Addr.add]
  case c2 => intro u hu; simp at hu; subst hu; rfl
  case c3 => unfold maxLen; omega
  case c4 => omega
  case c5 => simp; omega
  intro v' w2 hown' hgrow _
  have hlt : b < w1.heap.size := by
    rcases Nat.lt_or_ge b w1.heap.size with h' | h'
    · exact h'
    · simp [Array.getElem?_eq_none h'] at hbk
  have hb2 : w2.heap[b]? = some (.cells #[.pointer (some ⟨b, 0, none⟩), v] 91 (0, 0)) := by
    rw [hgrow.block b (by simp; omega) (fun e => hne e.symm), Lib.alloc_old w1 _ b hlt]
    exact hbk
  have d0 : w2.cell? ⟨b, 0, none⟩ = some (.pointer (some ⟨b, 0, none⟩)) := by rw [Lib.cell_of_heap hb2]; rfl
  have d1 : w2.cell? ⟨b, 1, none⟩ = some v := by rw [Lib.cell_of_heap hb2]; rfl
  have f1 : w2.frozen? ⟨b, 1, none⟩ = false := Lib.frozen_of_heap hb2 1
  obtain ⟨g, cap, rfl⟩ : ∃ g cap, v' = .slice (some ⟨g, 0, none⟩) (bs.length + 1) cap := by
    rcases hown'.2 with ⟨_, h0⟩ | ⟨g, cap, cur, fz, hv, _⟩
    · omega
    · exact ⟨g, cap, hv⟩
  go_wp2
  go_ret
  refine ⟨rfl, ?_, ?_, ((hk1.alloc _).grown hgrow (Lib.ownsRowF_kind (hown.alloc _))).setCell ⟨b, 1, none⟩ rfl _⟩
  · exact Lib.BuilderAtF.put (T := 91) (e := 5) hB hb2 (bs' := bs ++ [.int .u8 c]) (by simpa using hown') (by decide)
  · exact ((hb1.alloc (by omega) _).grown hgrow (by simp; omega) (fun k hk => (hown.lt k hk).1)).setCell (p := ⟨b, 1, none⟩) hB _

set_option maxHeartbeats 2000000 in
set_option maxRecDepth 100000 in
theorem writeString_any (B b : Nat) (bs : List Value) (s : ByteArray) (w : World) (h : Lib.IsBuilderF 91 5 B b bs w) (hlen : bs.length + s.size ≤ 140737488355328) (hBw : B ≤ w.heap.size) :
    Calls Tryd.prog 132 #[.pointer (some ⟨b, 0, none⟩), .string s] w fun e w' => e = .returned (.tuple #[.int .i64 s.size, .nilIface]) ∧ (Lib.BuilderAtF 91 5 B b (.pointer (some ⟨b, 0, none⟩)) (bs ++ Lib.strCells s) w' ∧ Below B w w' ∧ Lib.OthersKept 5 (some b) w w') := by
  obtain ⟨i0, hi, hz0, hz1, hz2⟩ := info_parts infoByte
  go_enter Tryd.func132, Tryd.ntmps132
  go_wp2_with (go_at_call 124; refine (copyCheck_any B b bs _ h).mono ?_)
  rintro e w1 ⟨rfl, h1, hb1, hk1⟩
  obtain ⟨hB, v, hbk, hown, hne⟩ := h1
  have c0 : w1.cell? ⟨b, 0, none⟩ = some (.pointer (some ⟨b, 0, none⟩)) := by rw [Lib.cell_of_heap hbk]; rfl
  have c1 : w1.cell? ⟨b, 1, none⟩ = some v := by rw [Lib.cell_of_heap hbk]; rfl
  have hsz := hb1.size
  go_wp2_with (at_builtin; refine Lib.wpList_append_own_stringF _ rfl _ _ 30 9 rfl B 5 i0 Tryd.underlying30 Tryd.underlying9 hi hz0 hz1 hz2 _ _ _ rfl hown s rfl ?c3 ?c4 ?c5 ?_)
  case c3 => unfold maxLen; omega
  case c4 => omega
  case c5 => omega
  intro v' w2 hown' hgrow _
  have hlt : b < w1.heap.size := by
    rcases Nat.lt_or_ge b w1.heap.size with h' | h'
    · exact h'
    · simp [Array.getElem?_eq_none h'] at hbk
  have hb2 : w2.heap[b]? = some (.cells #[.pointer (some ⟨b, 0, none⟩), v] 91 (0, 0)) := by
    rw [hgrow.block b hlt (fun e => hne e.symm)]
    exact hbk
  have d0 : w2.cell? ⟨b, 0, none⟩ = some (.pointer (some ⟨b, 0, none⟩)) := by rw [Lib.cell_of_heap hb2]; rfl
  have d1 : w2.cell? ⟨b, 1, none⟩ = some v := by rw [Lib.cell_of_heap hb2]; rfl
  have f1 : w2.frozen? ⟨b, 1, none⟩ = false := Lib.frozen_of_heap hb2 1
  obtain ⟨ao, n', cap, rfl⟩ : ∃ ao n' cap, v' = .slice ao n' cap := by
    rcases hown'.2 with ⟨hv, _⟩ | ⟨g, cap, cur, fz, hv, _⟩
    · exact ⟨_, _, _, hv⟩
    · exact ⟨_, _, _, hv⟩
  go_wp2
  go_ret2
  refine ⟨rfl, ?_, ?_, (hk1.grown hgrow (Lib.ownsRowF_kind hown)).setCell ⟨b, 1, none⟩ rfl _⟩
  · exact Lib.BuilderAtF.put (T := 91) (e := 5) hB hb2 (bs' := bs ++ Lib.strCells s) (by simpa [Lib.strCells_length] using hown') (by decide)
  · exact (hb1.grown hgrow (by omega) (fun k hk => (hown.lt k hk).1)).setCell (p := ⟨b, 1, none⟩) hB _
end Go.Proofs.YtdgejkiackeieaaDoor
end
section
set_option linter.unusedVariables false
set_option linter.unusedSimpArgs false
/- The contracts of the writers of layer 2: Text, Int, Nums, Texts. -/
set_option linter.unusedVariables false
set_option linter.unusedSimpArgs false
namespace Go.Proofs.YtdgejkiackeieaaDoor
/-- The library's package-level variable that a search reads holds an int, in a block of the program's own. -/
structure MaxW (w : World) : Prop where mk :: (max : ∃ m : Int, w.cell? ⟨4, 0, none⟩ = some (.int .i64 m)) (five : 5 ≤ w.heap.size)
theorem MaxW.below {w w' : World} (h : MaxW w) (hb : RowKit.Below w.heap.size w w') : MaxW w' := by
  obtain ⟨⟨m, hm⟩, h5⟩ := h
  exact ⟨⟨m, by rw [hb.cell (p := ⟨4, 0, none⟩) (by show 4 < _; omega)]; exact hm⟩, Nat.le_trans h5 hb.size⟩
end Go.Proofs.YtdgejkiackeieaaDoor
namespace Go.Proofs.YtdgejkiackeieaaDoor.Wr
open Go.RowKit Go.Proofs.YtdgejkiackeieaaDoor Go.Proofs.YtdgejkiackeieaaDoor.PWr Go.Proofs.YtdgejkiackeieaaDoorW.PrintWords Go.Proofs.YtdgejkiackeieaaDoorW.PrintMore
theorem ret_s' {a b : ByteArray} (h : a = b) : Ending.returned (.string a) = .returned (.string b) := by rw [h]
theorem Repl_any (s old new : ByteArray) (w : World) (hM : MaxW w) (hs : s.size ≤ 10000000) (ho : 1 ≤ old.size) (hn : new.size ≤ 1000) :
    Calls Tryd.prog 101 #[.string s, .string old, .string new] w fun e w' => e = .returned (.string (mkB (Lib.replaceAll s.data.toList old.data.toList new.data.toList))) ∧ Below w.heap.size w w' := by
  obtain ⟨⟨m, hm⟩, h5⟩ := hM
  have hc := Lib.countB_mul_le old ho s.size s (Nat.le_refl _)
  have h1 : Lib.countB s old ≤ s.size := Nat.le_trans (Nat.le_mul_of_pos_right _ ho) hc
  have h2 : Lib.countB s old * new.size ≤ 10000000 * 1000 := Nat.mul_le_mul (by omega) hn
  exact Tryd.strings_ReplaceAll s old new m w (by omega) hm ho (by omega)
theorem textB_repl (l : List UInt8) : Lib.replaceAll l [0] [0, 255] ++ [0, 1] = textB l := by
  rw [replaceAll_one]; rfl
set_option maxRecDepth 100000 in
theorem Text_any (s : ByteArray) (w : World) (hM : MaxW w) (hs : s.size ≤ 1000000) : Calls Tryd.prog 40 #[.string s] w fun e w' => e = .returned (.string (mkB (textB s.data.toList))) ∧ Below w.heap.size w w' := by
  have hz : (Lib.replaceAll s.data.toList [0] [0, 255]).length ≤ 3 * s.size := by
    have h := (textB_length s.data.toList).2
    rw [← textB_repl, len_size, List.length_append] at h
    simp only [List.length_cons, List.length_nil] at h
    by_cases h0 : s.size = 0
    · have : s.data.toList = [] := List.eq_nil_of_length_eq_zero (by rw [len_size]; exact h0)
      rw [this, h0]; decide
    · omega
  obtain ⟨R, hR⟩ : ∃ R : ByteArray, mkB (Lib.replaceAll s.data.toList [0] [0, 255]) = R := ⟨_, rfl⟩
  have hRz : R.size ≤ 3000000 := by rw [← hR, mkB_size]; omega
  have hE : mkB (textB s.data.toList) = R ++ (⟨#[0, 1]⟩ : ByteArray) := by
    rw [← hR, ← textB_repl]; exact (mkB_append _ [0, 1]).symm
  have HR := Lib.hid hR
  have HE := Lib.hid hE
  have hb1 : R.size + 2 ≤ 9223372036854775807 := by omega
  clear hR hE hz
  go_enter Tryd.func40, Tryd.ntmps40
  go_wp2_with fail
  refine (Repl_any s ⟨#[0]⟩ ⟨#[0, 255]⟩ w hM (by omega) (by decide) (by decide)).mono ?_
  rw [show mkB (Lib.replaceAll s.data.toList (ByteArray.mk #[0]).data.toList (ByteArray.mk #[0, 255]).data.toList) = R from HR.out]
  rintro e w1 ⟨rfl, hb⟩
  go_wp2
  go_ret
  exact ⟨ret_s' HE.out.symm, hb⟩
theorem Int_any (n : Int) (w : World) (h : InR n) : Calls Tryd.prog 41 #[.int .i64 n] w fun e w' => e = .returned (.string (mkB (intB n))) ∧ Below w.heap.size w w' := by
  obtain ⟨k, hk⟩ := wire_Int_eq n h
  exact wire_Int.calls k n _ w hk
theorem builder_kept' {T e : TypeId} {B b : Nat} {bs : List Value} {w w' : World} (h : Lib.IsBuilderF T e B b bs w) (hb : Below w.heap.size w w') : Lib.IsBuilderF T e B b bs w' := by
  have hk : ∀ k, B ≤ k → k < w.heap.size → w'.heap[k]? = w.heap[k]? := fun k _ hlt => hb.block k hlt
  have one : ∀ p, Lib.BuilderAtF T e B b p bs w → Lib.BuilderAtF T e B b p bs w' := by
    rintro p ⟨hB, v, hb, ⟨hl, hv⟩, hne⟩
    refine ⟨hB, v, (hk b hB (Array.getElem?_eq_some_iff.1 hb).1).trans hb, ⟨hl, ?_⟩, hne⟩
    rcases hv with hv | ⟨g, cap, cur, fz, e1, e2, e3, e4⟩
    · exact .inl hv
    · exact .inr ⟨g, cap, cur, fz, e1, e2, (hk g e2 (Array.getElem?_eq_some_iff.1 e3).1).trans e3, e4⟩
  exact h.imp (one _) (one _)
set_option maxHeartbeats 8000000 in
set_option maxRecDepth 100000 in
theorem list110 (A : Option Addr) (c : Nat) (l : List Int) (w : World) (hR : Kd.C (Kd.int .i64) w A l.length l) (hc : l.length ≤ c) (hl : l.length ≤ 1000) (hx : ∀ x ∈ l, InR x) :
    Calls Tryd.prog 110 #[.slice A l.length c, .func (.func 41) #[] #[]] w fun e w' => e = .returned (.string (mkB (listB intB l))) ∧ Below w.heap.size w w' := by
  have HX := Lib.hid hx; have HR := Lib.hid hR
  clear hx hR
  go_enter Tryd.func110, Tryd.ntmps110
  go_wp2
  go_loopw [10] (fun i wr => ∃ k : Nat, k ≤ l.length ∧ i = .int .i64 k ∧ Hid (∃ bs : List UInt8, listB intB l = bs ++ listB intB (l.drop k) ∧ bs.length ≤ 3000000 * k ∧ Lib.IsBuilderF 91 5 w.heap.size w.heap.size (Lib.byteCells bs) wr) ∧ Below w.heap.size w wr) (fun i _ => l.length - (intOf i).toNat)
  case atStart =>
    exact ⟨0, by omega, rfl, Lib.hid ⟨[], rfl, by simp, Lib.IsBuilderF.of (Lib.fresh_isBuilder 91 5 w)⟩, (Below.refl _ w).alloc (Nat.le_refl _) _⟩
  case round =>
    obtain ⟨k, hk, rfl, hbs, hbw⟩ := hrel
    obtain ⟨bs, hbs1, hbs2, hbd⟩ := hbs.out
    have HB1 := Lib.hid hbs1
    have hsz : w.heap.size ≤ wr.heap.size := hbw.size
    clear hbs1 hbs
    by_cases hlt : k < l.length
    · have hxk := HX.out _ (List.getElem_mem hlt)
      have HXK := Lib.hid hxk
      obtain ⟨ad, hA, hcell⟩ := Kd.at_int HR.out (k : Int) (by omega) (by omega)
      subst hA
      have hg : rd l (k : Int) = l[k] := rd_nat k hlt
      rw [hg] at hcell
      have hcell' := (hbw.cell (World.block_lt_of_cell? w _ hcell)).trans hcell
      have hlen : ((intB l[k]).length : Nat) ≤ 2000000 := by have := intB_length _ hxk; omega
      obtain ⟨x, hxe⟩ : ∃ x, l[k] = x := ⟨_, rfl⟩
      rw [hxe] at hcell' HXK hlen
      rw [Int.toNat_natCast] at hcell'
      have HXE := Lib.hid hxe
      have HLT := Lib.hid hlt
      have i1 : (k : Int) < (l.length : Int) := by omega
      have i2 : 0 ≤ (k : Int) := by omega
      clear hcell hg hxk hxe
      go_wp2_with fail
      refine (writeByte_any w.heap.size w.heap.size _ _ _ hbd (by rw [Lib.byteCells_length]; omega) hsz).mono ?_
      rintro e w1 ⟨rfl, h1, b1, _⟩
      have hsz1 : w.heap.size ≤ w1.heap.size := Nat.le_trans hsz b1.size
      have hbw1 := hbw.trans b1
      clear hbd
      go_wp2_with fail
      refine (Int_any x w1 HXK.out).mono ?_
      rintro e w2 ⟨rfl, b2⟩
      have h2 := builder_kept' (Or.inr h1) b2
      have hbw2 := hbw1.trans (b2.mono hsz1)
      have hsz2 : w.heap.size ≤ w2.heap.size := Nat.le_trans hsz1 b2.size
      clear h1
      go_wp2_with fail
      refine (writeString_any w.heap.size w.heap.size _ _ _ h2 (by simp only [List.length_append, Lib.byteCells_length, List.length_cons, List.length_nil, mkB_size]; omega) hsz2).mono ?_
      rintro e w3 ⟨rfl, h3, b3, _⟩
      go_wp2
      go_roundw
      case rel =>
        refine ⟨k + 1, by omega, by go_num, Lib.hid ⟨bs ++ (1 :: intB x), ?_, ?_, ?_⟩, hbw2.trans b3⟩
        · rw [HB1.out, List.drop_eq_getElem_cons HLT.out, listB_cons, HXE.out]; simp
        · simp only [List.length_append, List.length_cons]; omega
        · refine Or.inr ?_
          have e : Lib.byteCells (bs ++ (1 :: intB x)) = Lib.byteCells bs ++ [.int .u8 1] ++ (mkB (intB x)).data.toList.map (fun b => Value.int .u8 (b.toNat : Int)) := by
            rw [Lib.byteCells_append]; simp [Lib.byteCells]
          rw [e]
          exact h3
      case measure => simp [intOf]; omega
    · obtain rfl : k = l.length := by omega
      have HLT := Lib.hid hlt
      have hnl : listB intB l = bs ++ [0] := by rw [HB1.out, List.drop_of_length_le (Nat.le_refl _)]; rfl
      have HNL := Lib.hid hnl
      clear hlt hnl
      go_wp2_with fail
      refine (writeByte_any w.heap.size w.heap.size _ _ _ hbd (by rw [Lib.byteCells_length]; omega) hsz).mono ?_
      rintro e w1 ⟨rfl, h1, b1, _⟩
      have hsz1 : w.heap.size ≤ w1.heap.size := Nat.le_trans hsz b1.size
      have e1 : Lib.byteCells bs ++ [Value.int .u8 0] = Lib.byteCells (bs ++ [0]) := by rw [Lib.byteCells_append]; rfl
      rw [e1] at h1
      clear e1 hbd
      go_wp2_with fail
      refine (Tryd.Builder_String_any_k w.heap.size w.heap.size _ w1 (Or.inr h1) hsz1).mono ?_
      rintro e w2 ⟨rfl, _, b2, _⟩
      go_wp2
      go_ret
      exact ⟨ret_s' (by rw [HNL.out]), (hbw.trans b1).trans b2⟩
set_option maxRecDepth 100000 in
theorem Nums_any (A : Option Addr) (c : Nat) (l : List Int) (w : World) (hR : Kd.C (Kd.int .i64) w A l.length l) (hc : l.length ≤ c) (hl : l.length ≤ 1000) (hx : ∀ x ∈ l, InR x) :
    Calls Tryd.prog 53 #[.slice A l.length c] w fun e w' => e = .returned (.string (mkB (listB intB l))) ∧ Below w.heap.size w w' := by
  go_enter Tryd.func53, Tryd.ntmps53
  go_wp2_with fail
  refine (list110 A c l w hR hc hl hx).mono ?_
  rintro e w1 ⟨rfl, hb⟩
  go_wp2
  go_ret
  exact ⟨rfl, hb⟩
set_option maxHeartbeats 8000000 in
set_option maxRecDepth 100000 in
theorem list111 (A : Option Addr) (c : Nat) (l : List ByteArray) (w : World) (hR : Kd.C Kd.string w A l.length l) (hc : l.length ≤ c) (hl : l.length ≤ 1000) (hx : ∀ x ∈ l, x.size ≤ 500000) (hM : MaxW w) :
    Calls Tryd.prog 111 #[.slice A l.length c, .func (.func 40) #[] #[]] w fun e w' => e = .returned (.string (mkB (listB (fun (s : ByteArray) => textB s.data.toList) l))) ∧ Below w.heap.size w w' := by
  have HX := Lib.hid hx; have HR := Lib.hid hR; have HM := Lib.hid hM
  clear hx hR hM
  go_enter Tryd.func111, Tryd.ntmps111
  go_wp2
  go_loopw [10] (fun i wr => ∃ k : Nat, k ≤ l.length ∧ i = .int .i64 k ∧ Hid (∃ bs : List UInt8, listB (fun (s : ByteArray) => textB s.data.toList) l = bs ++ listB (fun (s : ByteArray) => textB s.data.toList) (l.drop k) ∧ bs.length ≤ 3000000 * k ∧ Lib.IsBuilderF 91 5 w.heap.size w.heap.size (Lib.byteCells bs) wr) ∧ Below w.heap.size w wr) (fun i _ => l.length - (intOf i).toNat)
  case atStart =>
    exact ⟨0, by omega, rfl, Lib.hid ⟨[], rfl, by simp, Lib.IsBuilderF.of (Lib.fresh_isBuilder 91 5 w)⟩, (Below.refl _ w).alloc (Nat.le_refl _) _⟩
  case round =>
    obtain ⟨k, hk, rfl, hbs, hbw⟩ := hrel
    obtain ⟨bs, hbs1, hbs2, hbd⟩ := hbs.out
    have HB1 := Lib.hid hbs1
    have hsz : w.heap.size ≤ wr.heap.size := hbw.size
    clear hbs1 hbs
    by_cases hlt : k < l.length
    · have hxk := HX.out _ (List.getElem_mem hlt)
      have HXK := Lib.hid hxk
      obtain ⟨ad, hA, hcell⟩ := Kd.at_string HR.out (k : Int) (by omega) (by omega)
      subst hA
      have hg : rdOf ByteArray.empty l (k : Int) = l[k] := rdOf_nat k hlt
      rw [hg] at hcell
      have hcell' := (hbw.cell (World.block_lt_of_cell? w _ hcell)).trans hcell
      have hlen : (((fun (s : ByteArray) => textB s.data.toList) l[k]).length : Nat) ≤ 2000000 := by have := (textB_length (l[k]).data.toList).2; rw [len_size] at this; show (textB (l[k]).data.toList).length ≤ _; omega
      obtain ⟨x, hxe⟩ : ∃ x, l[k] = x := ⟨_, rfl⟩
      rw [hxe] at hcell' HXK hlen
      rw [Int.toNat_natCast] at hcell'
      have HXE := Lib.hid hxe
      have HLT := Lib.hid hlt
      have i1 : (k : Int) < (l.length : Int) := by omega
      have i2 : 0 ≤ (k : Int) := by omega
      clear hcell hg hxk hxe
      go_wp2_with fail
      refine (writeByte_any w.heap.size w.heap.size _ _ _ hbd (by rw [Lib.byteCells_length]; omega) hsz).mono ?_
      rintro e w1 ⟨rfl, h1, b1, _⟩
      have hsz1 : w.heap.size ≤ w1.heap.size := Nat.le_trans hsz b1.size
      have hbw1 := hbw.trans b1
      clear hbd
      go_wp2_with fail
      refine (Text_any x w1 (HM.out.below hbw1) (by have := HXK.out; omega)).mono ?_
      rintro e w2 ⟨rfl, b2⟩
      have h2 := builder_kept' (Or.inr h1) b2
      have hbw2 := hbw1.trans (b2.mono hsz1)
      have hsz2 : w.heap.size ≤ w2.heap.size := Nat.le_trans hsz1 b2.size
      clear h1
      go_wp2_with fail
      refine (writeString_any w.heap.size w.heap.size _ _ _ h2 (by simp only [List.length_append, Lib.byteCells_length, List.length_cons, List.length_nil, mkB_size]; omega) hsz2).mono ?_
      rintro e w3 ⟨rfl, h3, b3, _⟩
      go_wp2
      go_roundw
      case rel =>
        refine ⟨k + 1, by omega, by go_num, Lib.hid ⟨bs ++ (1 :: (fun (s : ByteArray) => textB s.data.toList) x), ?_, ?_, ?_⟩, hbw2.trans b3⟩
        · rw [HB1.out, List.drop_eq_getElem_cons HLT.out, listB_cons, HXE.out]; simp
        · simp only [List.length_append, List.length_cons]; omega
        · refine Or.inr ?_
          have e : Lib.byteCells (bs ++ (1 :: (fun (s : ByteArray) => textB s.data.toList) x)) = Lib.byteCells bs ++ [.int .u8 1] ++ (mkB ((fun (s : ByteArray) => textB s.data.toList) x)).data.toList.map (fun b => Value.int .u8 (b.toNat : Int)) := by
            rw [Lib.byteCells_append]; simp [Lib.byteCells]
          rw [e]
          exact h3
      case measure => simp [intOf]; omega
    · obtain rfl : k = l.length := by omega
      have HLT := Lib.hid hlt
      have hnl : listB (fun (s : ByteArray) => textB s.data.toList) l = bs ++ [0] := by rw [HB1.out, List.drop_of_length_le (Nat.le_refl _)]; rfl
      have HNL := Lib.hid hnl
      clear hlt hnl
      go_wp2_with fail
      refine (writeByte_any w.heap.size w.heap.size _ _ _ hbd (by rw [Lib.byteCells_length]; omega) hsz).mono ?_
      rintro e w1 ⟨rfl, h1, b1, _⟩
      have hsz1 : w.heap.size ≤ w1.heap.size := Nat.le_trans hsz b1.size
      have e1 : Lib.byteCells bs ++ [Value.int .u8 0] = Lib.byteCells (bs ++ [0]) := by rw [Lib.byteCells_append]; rfl
      rw [e1] at h1
      clear e1 hbd
      go_wp2_with fail
      refine (Tryd.Builder_String_any_k w.heap.size w.heap.size _ w1 (Or.inr h1) hsz1).mono ?_
      rintro e w2 ⟨rfl, _, b2, _⟩
      go_wp2
      go_ret
      exact ⟨ret_s' (by rw [HNL.out]), (hbw.trans b1).trans b2⟩
set_option maxRecDepth 100000 in
theorem Texts_any (A : Option Addr) (c : Nat) (l : List ByteArray) (w : World) (hR : Kd.C Kd.string w A l.length l) (hc : l.length ≤ c) (hl : l.length ≤ 1000) (hx : ∀ x ∈ l, x.size ≤ 500000) (hM : MaxW w) :
    Calls Tryd.prog 55 #[.slice A l.length c] w fun e w' => e = .returned (.string (mkB (listB (fun (s : ByteArray) => textB s.data.toList) l))) ∧ Below w.heap.size w w' := by
  go_enter Tryd.func55, Tryd.ntmps55
  go_wp2_with fail
  refine (list111 A c l w hR hc hl hx hM).mono ?_
  rintro e w1 ⟨rfl, hb⟩
  go_wp2
  go_ret
  exact ⟨rfl, hb⟩
end Go.Proofs.YtdgejkiackeieaaDoor.Wr
end
section
set_option linter.unusedVariables false
set_option linter.unusedSimpArgs false
/- What the rows of the other laws need: the world's shape beside the laid tables, and how slices are opened. -/
set_option linter.unusedVariables false
namespace Go.Proofs.YtdgejkiackeieaaDoor
open Go.RowKit Go.ChangeShapes
theorem returns_shaped {H : Type} {enc : TypeId × Value → H} {a : Assume} {C : Checked} {os : Os} {f : FuncId} {fn : Func} {s : ChangeSpec} {conds : List PathCond} {apart fresh handsOn again : Bool} {X : World → Array Value → Prop}
    (hX : ∀ (w w' : World) (args : Array Value), w.heap = w'.heap → X w args → X w' args)
    (own : ownKnob C.prog.godebug = none) (started : os.Started) (noInit : C.prog.inits.idxOf? f = none) (hfn : C.prog.funcs[f]? = some fn)
    (witness : ∃ (w : World) (tape : Tape) (i : Input), w.os = os ∧ (w.forCall tape i).Shaped C.prog ∧ i.vars = [] ∧ Input.okWide C.prog (w.forCall tape i) .any w.heap.size f i ∧
      ((s.pre enc C.prog fn conds apart (w.forCall tape i).memory i.args ∧ X (w.forCall tape i).memory i.args) ∧ sizedMet enc C.prog fn (OpenSpec.ofChange s) apart (w.forCall tape i).memory i.args) ∧ a.holds C.prog (lone (Frame.enter C.prog f i.args .normal) [] (w.forCall tape i)))
    (contract : ∀ (W : World) (base : Nat) (args : Array Value) (ds gs : List (DataW H)) (before : List MemPlace),
      (∀ (j : Nat) t v, fn.params[j]? = some t → args[j]? = some v → Value.okWide C.prog W .any base t v) →
      DataW.Whole enc C.prog fn.params.toList s.vars apart W args.toList ds gs before →
      conds.all (PathCond.test C.prog ⟨fn.params.toList, ds, s.plain.varTypes C.prog, gs⟩) = true →
      (DataW.weightsEach C.prog (fn.params.toList ++ s.plain.varTypes C.prog) (ds ++ gs)).all (· ≤ reachBytes) = true → X W args →
      W.ShapedOpen C.prog →
      Calls C.prog f args W fun e W' => ∃ v, e = .returned v ∧ s.post enc C.prog fn apart fresh handsOn again W args v W') :
    ReturnsInHanded a C os f .any (fun w args => (s.pre enc C.prog fn conds apart w args ∧ X w args) ∧ sizedMet enc C.prog fn (OpenSpec.ofChange s) apart w args) (s.post enc C.prog fn apart fresh handsOn again) := by
  refine returnsInHanded_of_calls own started noInit witness ?_
  intro w tape i _ hsh _ hok hpre hholds
  obtain ⟨_, _, _, fn', hfn', _, _, _, _, hval⟩ := hok
  have e : fn' = fn := Option.some.inj (hfn'.symm.trans hfn)
  subst e
  obtain ⟨⟨⟨ds, gs, before, hw, hc⟩, hx⟩, hz⟩ := hpre
  have hw' := DataW.Whole.of_heap (w' := w.forCall tape i) (by rfl) hw
  refine (contract (w.forCall tape i) w.heap.size i.args ds gs before hval hw' hc (hz.weights hw) (hX _ _ _ (by rfl) hx) hsh).mono fun e W' ⟨v, he, hp⟩ => ?_
  subst he
  exact ChangeSpec.post_blind hp
theorem maxw_of_shape {W : World} (hsh : W.ShapedOpen Tryd.prog) : MaxW W := by
  obtain ⟨m, hm⟩ := cell_of_shapedOpen_int (P := Tryd.prog) (g := 4) (t := 3) (zero := #[.int .i64 0]) hsh (of_decide_eq_true (by kernel_rfl)) (by kernel_rfl) rfl (by kernel_rfl) (by kernel_rfl) Tryd.underlying3
  exact ⟨⟨m, hm⟩, World.block_lt_of_cell? W _ hm⟩
/-- A row of whole numbers, as the calls take it. -/
def IsRow (k : IntKind) (w : World) (a : Option Addr) (len cap : Nat) (zs : List Int) : Prop :=
  (a = none ∧ len = 0 ∧ cap = 0 ∧ zs = []) ∨
  ∃ x, a = some x ∧ len ≤ cap ∧ cap ≤ maxLen ∧ zs.length = cap ∧ (∀ i, i < zs.length → w.cell? (x.add i) = some (.int k (zs.getD i 0))) ∧ ∀ n ∈ zs, (Lit.int k n).wf = true
theorem isrow_of {H : Type} {enc : TypeId × Value → H} {W : World} {t e : TypeId} {k : IntKind} {a : Option Addr} {len cap : Nat} {d : DataW H} {p : List MemPlace} (ht : Tryd.prog.underlying t = some (.slice e)) (he : Tryd.prog.underlying e = some (.int k)) (hc : Tryd.prog.cellsOf e = 1)
    (h : ∃ fuel, DataW.trod enc Tryd.prog W 0 (fun _ => true) true fuel t (Value.cells (.slice a len cap)).toList = some (d, p)) : ∃ zs, IsRow k W a len cap zs := by
  obtain ⟨fuel, hf⟩ := h
  rcases open_ints ht he hc hf with ⟨hcs, _⟩ | ⟨x, l, c, zs, hcs, _, hl, hm, hz, _, hcell, hwz⟩
  · simp [Value.cells] at hcs
    obtain ⟨rfl, rfl, rfl⟩ := hcs
    exact ⟨[], .inl ⟨rfl, rfl, rfl, rfl⟩⟩
  · simp [Value.cells] at hcs
    obtain ⟨rfl, rfl, rfl⟩ := hcs
    exact ⟨zs, .inr ⟨_, rfl, hl, hm, by simpa using hz, hcell, hwz⟩⟩
end Go.Proofs.YtdgejkiackeieaaDoor
end
section
set_option linter.unusedVariables false
set_option linter.unusedSimpArgs false
/- The contract of digest's Hex. -/
set_option linter.unusedVariables false
set_option linter.unusedSimpArgs false
namespace Go.Proofs.YtdgejkiackeieaaDoor
open Go.RowKit
/-- The digit of a number below 16. -/
def dig (n : Nat) : UInt8 := if n < 10 then UInt8.ofNat (48 + n) else UInt8.ofNat (87 + n)
end Go.Proofs.YtdgejkiackeieaaDoor
end
section
set_option linter.unusedVariables false
set_option linter.unusedSimpArgs false
/- The contract of digest's Unhex. -/
set_option linter.unusedVariables false
set_option linter.unusedSimpArgs false
namespace Go.Proofs.YtdgejkiackeieaaDoor
open Go.RowKit
abbrev digitsB : ByteArray := { data := #[48, 49, 50, 51, 52, 53, 54, 55, 56, 57, 97, 98, 99, 100, 101, 102] }
/-- The number of a digit, or -1. -/
def hv (c : UInt8) : Int := Lib.indexByte digitsB.data.toList c
end Go.Proofs.YtdgejkiackeieaaDoor
end
section
set_option linter.unusedVariables false
set_option linter.unusedSimpArgs false
/- Arrays of whole numbers in a block of their own; a store into one. -/
set_option linter.unusedVariables false
set_option linter.unusedSimpArgs false
namespace Go.Proofs.YtdgejkiackeieaaDoor
open Go.RowKit Go.Proofs.YtdgejkiackeieaaDoorW.PrintLast
/-- An array of whole numbers in a block of its own. -/
def Arr (k : IntKind) (T : TypeId) (w : World) (g : Nat) (xs : List Int) : Prop := w.heap[g]? = some (.cells (xs.map (Value.int k)).toArray T (0, 0))
def el (xs : List Int) (i : Nat) : Int := xs.getD i 0
theorem Arr.cell {k T w g xs} (h : Arr k T w g xs) (i : Nat) (hi : i < xs.length) : w.cell? ⟨g, i, none⟩ = some (.int k (el xs i)) := by
  rw [Lib.cell_of_heap h]; simp [hi, el]
theorem Arr.set {k T w g xs} (h : Arr k T w g xs) (i : Nat) (x : Int) : Arr k T (w.setCell ⟨g, i, none⟩ (.int k x)) g (xs.set i x) := by
  unfold Arr at *
  simp [World.setCell, Array.getElem?_modify, h, List.map_set]
/-- Only the block g may have changed. -/
structure Only (g : Nat) (w w' : World) : Prop where
  os : w'.os = w.os
  tape : w'.tape = w.tape
  output : w'.output = w.output
  size : w'.heap.size = w.heap.size
  block : ∀ k, k ≠ g → w'.heap[k]? = w.heap[k]?
theorem Only.refl (g : Nat) (w : World) : Only g w w := ⟨rfl, rfl, rfl, rfl, fun _ _ => rfl⟩
theorem Only.trans {g : Nat} {a b c : World} (h : Only g a b) (k : Only g b c) : Only g a c :=
  ⟨k.os.trans h.os, k.tape.trans h.tape, k.output.trans h.output, k.size.trans h.size, fun i hi => (k.block i hi).trans (h.block i hi)⟩
theorem Only.set (g : Nat) (w : World) (i : Nat) (v : Value) : Only g w (w.setCell ⟨g, i, none⟩ v) :=
  ⟨rfl, rfl, rfl, by simp [World.setCell], fun k hk => Below.heap_setCell _ _ _ _ hk⟩
theorem Only.drew {g : Nat} {w w' : World} (h : Only g w w') : Only g w w'.drew := ⟨h.os, h.tape, h.output, h.size, h.block⟩
theorem Only.below {g B : Nat} {w w' : World} (h : Only g w w') (hB : B ≤ g) : Below B w w' :=
  ⟨h.os, h.tape, h.output, Nat.le_of_eq h.size.symm, fun k hk => h.block k (by omega)⟩
theorem ret_int {k : IntKind} {a b : Int} (h : a = b) : Ending.returned (.int k a) = .returned (.int k b) := by rw [h]
end Go.Proofs.YtdgejkiackeieaaDoor
end
section
set_option linter.unusedVariables false
set_option linter.unusedSimpArgs false
/- The contract of digest's mix (the function G). -/
set_option linter.unusedVariables false
set_option linter.unusedSimpArgs false
namespace Go.Proofs.YtdgejkiackeieaaDoor
open Go.RowKit Go.Proofs.YtdgejkiackeieaaDoorW.PrintLast
end Go.Proofs.YtdgejkiackeieaaDoor
end
section
set_option linter.unusedVariables false
set_option linter.unusedSimpArgs false
/- The contract of digest's words: the sixteen words of a block of at most 64 bytes. -/
set_option linter.unusedVariables false
set_option linter.unusedSimpArgs false
namespace Go.Proofs.YtdgejkiackeieaaDoor
open Go.RowKit Go.Proofs.YtdgejkiackeieaaDoorW.PrintLast
end Go.Proofs.YtdgejkiackeieaaDoor
end
section
set_option linter.unusedVariables false
set_option linter.unusedSimpArgs false
/- What digest's compress computes, in plain words; what its blocks hold. -/
set_option linter.unusedVariables false
set_option linter.unusedSimpArgs false
namespace Go.Proofs.YtdgejkiackeieaaDoor
open Go.RowKit Go.Proofs.YtdgejkiackeieaaDoorW.PrintLast
def firstI : List Int := [1779033703, 3144134277, 1013904242, 2773480762, 1359893119, 2600822924, 528734635, 1541459225]
def ordersN : List Nat := [0, 1, 2, 3, 4, 5, 6, 7, 8, 9, 10, 11, 12, 13, 14, 15,
  14, 10, 4, 8, 9, 15, 13, 6, 1, 12, 0, 2, 11, 7, 5, 3,
  11, 8, 12, 0, 5, 2, 15, 13, 10, 14, 3, 6, 7, 1, 9, 4,
  7, 9, 3, 1, 13, 12, 11, 14, 2, 6, 5, 10, 4, 0, 15, 8,
  9, 0, 5, 7, 2, 4, 10, 15, 14, 1, 11, 12, 6, 8, 3, 13,
  2, 12, 6, 10, 0, 11, 8, 3, 4, 13, 7, 5, 15, 14, 1, 9,
  12, 5, 1, 15, 14, 13, 4, 10, 0, 7, 6, 3, 9, 2, 8, 11,
  13, 11, 7, 14, 12, 1, 3, 9, 5, 0, 15, 4, 8, 6, 2, 10,
  6, 15, 14, 9, 11, 3, 0, 8, 12, 2, 13, 7, 1, 4, 10, 5,
  10, 2, 8, 4, 7, 6, 1, 5, 15, 11, 9, 14, 3, 12, 13, 0]
/-- The tables of package digest hold their initial data. -/
structure DigOk (w : World) : Prop where
  first : ∃ t fr, w.heap[0]? = some (.cells (firstI.map (Value.int .u32)).toArray t fr)
  orders : ∃ t fr, w.heap[1]? = some (.cells (ordersN.map (fun (n : Nat) => Value.int .u8 (n : Int))).toArray t fr)
theorem DigOk.below {w w' : World} (h : DigOk w) (hb : Below w.heap.size w w') : DigOk w' := by
  obtain ⟨⟨t, fr, h0⟩, ⟨t1, fr1, h1⟩⟩ := h
  exact ⟨⟨t, fr, (hb.block 0 (Array.getElem?_eq_some_iff.1 h0).1).trans h0⟩, ⟨t1, fr1, (hb.block 1 (Array.getElem?_eq_some_iff.1 h1).1).trans h1⟩⟩
/-- What the blocks of compress hold: the state, the result, the words of the block, the working words. -/
structure CW (w W : World) (g9 : Nat) (H R M V : List Int) : Prop where
  h : Arr .u32 98 W w.heap.size H
  r : Arr .u32 98 W (w.heap.size + 1) R
  m : Arr .u32 126 W g9 M
  v : Arr .u32 126 W (g9 + 1) V
  dig : DigOk W
  below : Below w.heap.size w W
  lt : w.heap.size + 1 < g9
  two : 2 ≤ w.heap.size
theorem Arr.below {k T w g xs w'} (h : Arr k T w g xs) {B : Nat} (hb : Below B w w') (hg : g < B) : Arr k T w' g xs := (hb.block g hg).trans h
theorem DigOk.below' {w w' : World} (h : DigOk w) {B : Nat} (hb : Below B w w') (hB : 2 ≤ B) : DigOk w' := by
  obtain ⟨⟨t, fr, h0⟩, ⟨t1, fr1, h1⟩⟩ := h
  exact ⟨⟨t, fr, (hb.block 0 (by omega)).trans h0⟩, ⟨t1, fr1, (hb.block 1 (by omega)).trans h1⟩⟩
/-- The working words alone have changed. -/
theorem CW.setV {w W W' : World} {g9 : Nat} {H R M V V' : List Int} (c : CW w W g9 H R M V) (hb : Below (g9 + 1) W W') (hv : Arr .u32 126 W' (g9 + 1) V') : CW w W' g9 H R M V' :=
  ⟨c.h.below hb (by have := c.lt; omega), c.r.below hb (by have := c.lt; omega), c.m.below hb (by omega), hv, c.dig.below' hb (by have := c.lt; have := c.two; omega), c.below.trans (hb.mono (by have := c.lt; omega)), c.lt, c.two⟩
/-- New blocks alone. -/
theorem CW.more {w W W' : World} {g9 : Nat} {H R M V : List Int} (c : CW w W g9 H R M V) (hb : Below W.heap.size W W') : CW w W' g9 H R M V := by
  have hl : g9 + 1 < W.heap.size := (Array.getElem?_eq_some_iff.1 c.v).1
  exact c.setV (hb.mono (by omega)) (c.v.below hb hl)
theorem CW.put {w W : World} {g9 : Nat} {H R M V : List Int} (c : CW w W g9 H R M V) (i : Nat) (x : Int) : CW w (W.setCell ⟨g9 + 1, i, none⟩ (.int .u32 x)) g9 H R M (V.set i x) :=
  c.setV ((Below.refl (g9 + 1) W).setCell (p := ⟨g9 + 1, i, none⟩) (Nat.le_refl _) _) (c.v.set i x)
end Go.Proofs.YtdgejkiackeieaaDoor
end
section
set_option linter.unusedVariables false
set_option linter.unusedSimpArgs false
/- The contract of digest's compress. -/
set_option linter.unusedVariables false
set_option linter.unusedSimpArgs false
namespace Go.Proofs.YtdgejkiackeieaaDoor
open Go.RowKit Go.Proofs.YtdgejkiackeieaaDoorW.PrintLast
end Go.Proofs.YtdgejkiackeieaaDoor
end
section
set_option linter.unusedVariables false
set_option linter.unusedSimpArgs false
/- The contract of digest's Sum. -/
set_option linter.unusedVariables false
set_option linter.unusedSimpArgs false
namespace Go.Proofs.YtdgejkiackeieaaDoor
open Go.RowKit Go.Proofs.YtdgejkiackeieaaDoorW.PrintLast
end Go.Proofs.YtdgejkiackeieaaDoor
end
section
set_option linter.unusedVariables false
set_option linter.unusedSimpArgs false
/- The contracts of digest's Hex, Unhex and Sum in the form that the printed callers take. -/
set_option linter.unusedVariables false
namespace Go.Proofs.YtdgejkiackeieaaDoor
open Go.RowKit
/-- The tables of package digest hold their initial data, in blocks of the program's own. -/
structure DigW (w : World) : Prop where mk :: (ok : DigOk w) (two : 2 ≤ w.heap.size)
theorem DigW.below {w w' : World} (h : DigW w) (hb : Below w.heap.size w w') : DigW w' := ⟨h.ok.below hb, Nat.le_trans h.two hb.size⟩
end Go.Proofs.YtdgejkiackeieaaDoor
end
section
set_option linter.unusedVariables false
set_option linter.unusedSimpArgs false
/- What the laid tables give: the digest's two tables lie in the heap as the specs name them. -/
set_option linter.unusedVariables false
namespace Go.Proofs.YtdgejkiackeieaaDoor
open Go.RowKit Go.ChangeShapes
end Go.Proofs.YtdgejkiackeieaaDoor
end
