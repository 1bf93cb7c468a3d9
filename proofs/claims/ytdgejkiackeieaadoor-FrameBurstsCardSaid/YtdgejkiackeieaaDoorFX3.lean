/- Texts of this claim, joined: RefB, PDigestTells4, PDigestTells5, RefC, FrameR, BytM, FlipT, Burst, PDigestResidue0, PDigestResidue1, PureDigestResidue, BurstP, FLBursts. -/
import Derived.Test.YtdgejkiackeieaaDoorFX1
import Derived.Test.YtdgejkiackeieaaDoorFX2
import Derived.Laws.BytesArg
import Derived.BigCall
import Derived.Test.YtdgejkiackeieaaDoorProg
import Derived.Below
import Derived.Deep.Draws
import Derived.Deep.AppendLies
import Derived.Maps.AppendAt
import Derived.OwnWalk
import Derived.Laws.MakeOwn
import Derived.Laws.OwnMore
import Derived.Deep.OwnRows
import Derived.Tactics
import Derived.Lib.ConvBytes
import Derived.Laws.Slices
import Derived.WalkKit
import Derived.KernelRfl
import Derived.RowKit3
import Derived.Deep.LoopGhost
import Derived.Deep.QuietTactic
import Derived.BigQuiet
import Derived.WideLaws
import Derived.Deep.DeepCutAuto
import Derived.Deep.CutBlock
import Derived.Deep.RegionHeld3
import Derived.Laws.Rows
import Derived.Lib.AppendStr
import Derived.ArgAppend
import Derived.Laws.IdiomCopy
import Derived.OrdersHeld
import Derived.Laws.BitsLemmas
import Derived.RowKit
import Derived.Test.YtdgejkiackeieaaDoorWWords
import Derived.Test.YtdgejkiackeieaaDoorWLast
import Derived.Test.YtdgejkiackeieaaDoorWTab
import Derived.Test.YtdgejkiackeieaaDoorWFour
import Derived.Test.YtdgejkiackeieaaDoorWQPut
import Derived.Test.YtdgejkiackeieaaDoorWApart
import Derived.Test.YtdgejkiackeieaaDoorWArr
import Derived.Test.YtdgejkiackeieaaDoorWZeros
import Derived.Test.YtdgejkiackeieaaDoorWFoot
import Derived.Test.YtdgejkiackeieaaDoorWKept
import Derived.Test.YtdgejkiackeieaaDoorWShare
import Derived.Test.YtdgejkiackeieaaDoorWN
import Derived.Test.YtdgejkiackeieaaDoorWFootNe
import Derived.Test.YtdgejkiackeieaaDoorWAt
import Derived.Test.YtdgejkiackeieaaDoorWEqStruct
import Derived.Test.YtdgejkiackeieaaDoorWRepsOne
import Derived.Test.YtdgejkiackeieaaDoorWInv
import Derived.Test.YtdgejkiackeieaaDoorWInvWords
import Derived.Test.YtdgejkiackeieaaDoorWGuard
import Derived.Test.YtdgejkiackeieaaDoorWNEv
import Derived.Test.YtdgejkiackeieaaDoorWMore
section
set_option linter.unusedVariables false
set_option linter.unusedSimpArgs false
/- What the reference's compress computes, in the words of the program's own specifications. -/
set_option linter.unusedVariables false
set_option linter.unusedSimpArgs false
namespace Go.Proofs.YtdgejkiackeieaaDoor.RefA
open Go.RowKit Go.Proofs.YtdgejkiackeieaaDoor Go.Proofs.YtdgejkiackeieaaDoor.PDigestTells Go.Proofs.YtdgejkiackeieaaDoorW.PrintWords Go.Proofs.YtdgejkiackeieaaDoorW.PrintMore
/-! the start -/
end Go.Proofs.YtdgejkiackeieaaDoor.RefA
end
section
set_option linter.unusedVariables false
set_option linter.unusedSimpArgs false
-- printed by a program of this session's (xprint.py) out of the translation; Lean checks it
namespace Go.Proofs.YtdgejkiackeieaaDoor.PDigestTells
open Go.RowKit Go.Proofs.YtdgejkiackeieaaDoorW.PrintWords Go.Proofs.YtdgejkiackeieaaDoorW.PrintLast Go.Proofs.YtdgejkiackeieaaDoorW.PrintMore
attribute [local go_sem] max2_int min2_int max_two min_two max_three min_three max_four min_four   -- for this text's walks alone
set_option linter.unusedVariables false
set_option linter.unusedSimpArgs false

/-! ### bourneref03_Sum: function 32 -/
/-! ### bourneref03_Short: function 34 -/
/-! ### bourneref03_Crc: function 35 -/
mutual
def bourneref03_Crc.l0 : Nat → ByteArray → Int → Int → Option (Int)
 | 0, _, _, _ => none
 | k + 1, x0, x3, x4 => if x4 < (x0.size : Int) then (if 0 ≤ x4 then (bourneref03_Crc.l1 k x0 (Go.bits .xor .i64 x3 (wrap64 (bt x0 x4))) x4 0) else (none)) else (some (Go.bits .xor .i64 x3 65535))
def bourneref03_Crc.l1 : Nat → ByteArray → Int → Int → Int → Option (Int)
 | 0, _, _, _, _ => none
 | k + 1, x0, x3, x4, x5 => if x5 < 8 then (if (Int.tmod x3 2) = 1 then (bourneref03_Crc.l1 k x0 (Go.bits .xor .i64 (wrap64 (Int.tdiv x3 2)) 33800) x4 (wrap64 (x5 + 1))) else (bourneref03_Crc.l1 k x0 (wrap64 (Int.tdiv x3 2)) x4 (wrap64 (x5 + 1)))) else (bourneref03_Crc.l0 k x0 x3 (wrap64 (x4 + 1)))
end
def bourneref03_Crc.f (k : Nat) (a0 : ByteArray) : Option (Int) := bourneref03_Crc.l0 k a0 65535 0
set_option maxHeartbeats 8000000 in
set_option maxRecDepth 100000 in
theorem bourneref03_Crc.calls (k : Nat) (a0 : ByteArray) (r : Int) (w : World) (h : bourneref03_Crc.f k a0 = some r) :
  Calls Tryd.prog 35 #[.string a0] w fun e w' => e = .returned (.int .i64 r) ∧ Drawn0 w w' := by
 have H : (bourneref03_Crc.l0 k a0 65535 0) = some r := h
 clear h
 have H' := Aside0.mk H
 clear H
 go_enter Tryd.func35, Tryd.ntmps35
 go_wp2
 go_loopg [3, 4] k (fun kq v3 v4 w' => ∃ (x3_1 : Int) (x4_1 : Int), v3 = .int .i64 x3_1 ∧ v4 = .int .i64 x4_1 ∧ Aside0 (bourneref03_Crc.l0 kq a0 x3_1 x4_1 = some r) ∧ Aside0 (kq ≤ k) ∧ Drawn0 w w')
 case atStart => exact ⟨(65535), (0), (by first | rfl | (simp; done) | (simp [*]; done)), (by first | rfl | (simp; done) | (simp [*]; done)), H', ⟨Nat.le_refl _⟩, by repeat (first | exact Drawn0.refl _ | apply Drawn0.step)⟩
 case round =>
  clear H'
  obtain ⟨x3_1, x4_1, rfl, rfl, HA, HK1, ⟨m1, rfl⟩⟩ := hrel
  cases gk with
  | zero => exact absurd HA.out (by simp [bourneref03_Crc.l0])
  | succ k1 =>
   have H := HA.out
   clear HA
   simp only [bourneref03_Crc.l0] at H
   by_cases c2 : x4_1 < (a0.size : Int)
   rotate_left
   ·rw [if_neg c2] at H
    have c2b0 : decide (x4_1 < (a0.size : Int)) = false := decide_eq_false c2
    clear c2
    obtain rfl := Option.some.inj H
    go_wp2
    go_ret
    exact ⟨by first | rfl | (simp; done) | (simp [*]; done), by repeat (first | exact Drawn0.refl _ | apply Drawn0.step)⟩
   rw [if_pos c2] at H
   have c2b0 : decide (x4_1 < (a0.size : Int)) = true := decide_eq_true c2
   clear c2
   by_cases c3 : 0 ≤ x4_1
   rotate_left
   ·rw [if_neg c3] at H
    exact absurd H (by simp)
   rw [if_pos c3] at H
   have c3b0 : decide (0 ≤ x4_1) = true := decide_eq_true c3
   clear c3
   have H' := Aside0.mk H
   clear H
   have p4 : 0 ≤ (x4_1 : Int) := of_decide_eq_true (by first | (with_reducible assumption) | assumption)
   have q4 : x4_1 < (a0.size : Int) := of_decide_eq_true (by first | (with_reducible assumption) | assumption)
   have hx4 := bt_at a0 x4_1
   replace p4 := eq_true p4
   replace q4 := eq_true q4
   go_wp2
   go_loopg [3, 5] k1 (fun kq v3 v5 w' => ∃ (x3_2 : Int) (x5_2 : Int), v3 = .int .i64 x3_2 ∧ v5 = .int .i64 x5_2 ∧ Aside0 (bourneref03_Crc.l1 kq a0 x3_2 x4_1 x5_2 = some r) ∧ Aside0 (kq ≤ k1) ∧ Drawn0 w w')
   case atStart => exact ⟨(Go.bits .xor .i64 x3_1 (wrap64 (bt a0 x4_1))), (0), (by first | rfl | (simp; done) | (simp [*]; done)), (by first | rfl | (simp; done) | (simp [*]; done)), H', ⟨Nat.le_refl _⟩, by repeat (first | exact Drawn0.refl _ | apply Drawn0.step)⟩
   case round =>
    clear H'
    try clear c2
    try clear c2b0
    try clear p2
    try clear c3
    try clear c3b0
    try clear p4
    try clear q4
    try clear hx4
    try clear p4
    try clear q4
    obtain ⟨x3_2, x5_2, rfl, rfl, HA, HK2, ⟨m2, rfl⟩⟩ := hrel
    cases gk with
    | zero => exact absurd HA.out (by simp [bourneref03_Crc.l1])
    | succ k2 =>
     have H := HA.out
     clear HA
     simp only [bourneref03_Crc.l1] at H
     by_cases c5 : x5_2 < 8
     rotate_left
     ·rw [if_neg c5] at H
      have c5b0 : decide (x5_2 < 8) = false := decide_eq_false c5
      clear c5
      have H' := Aside0.mk H
      clear H
      go_wp2
      go_roundg k2
      case measure => have := HK1.out; have := HK2.out; omega
      case rel => exact ⟨(x3_2), (wrap64 (x4_1 + 1)), (by first | rfl | (simp; done) | (simp [*]; done)), (by first | rfl | (simp; done) | (simp [*]; done)), H', ⟨by have := HK1.out; have := HK2.out; omega⟩, by repeat (first | exact Drawn0.refl _ | apply Drawn0.step)⟩
     rw [if_pos c5] at H
     have c5b0 : decide (x5_2 < 8) = true := decide_eq_true c5
     clear c5
     by_cases c6 : (Int.tmod x3_2 2) = 1
     rotate_left
     ·rw [if_neg c6] at H
      have c6b0 : ((Int.tmod x3_2 2) == 1) = false := beq_eq_false_iff_ne.mpr c6
      have c6b1 : ((Int.tmod x3_2 2) != 1) = true := bne_iff_ne.mpr c6
      have H' := Aside0.mk H
      clear H
      go_wp2
      go_roundg k2
      case measure => have := HK1.out; have := HK2.out; omega
      case rel => exact ⟨(wrap64 (Int.tdiv x3_2 2)), (wrap64 (x5_2 + 1)), (by first | rfl | (simp; done) | (simp [*]; done)), (by first | rfl | (simp; done) | (simp [*]; done)), H', ⟨by have := HK1.out; have := HK2.out; omega⟩, by repeat (first | exact Drawn0.refl _ | apply Drawn0.step)⟩
     rw [if_pos c6] at H
     have c6b0 : ((Int.tmod x3_2 2) == 1) = true := beq_iff_eq.mpr c6
     have c6b1 : ((Int.tmod x3_2 2) != 1) = false := bne_eq_false_iff_eq.mpr c6
     clear c6
     have H' := Aside0.mk H
     clear H
     go_wp2
     go_roundg k2
     case measure => have := HK1.out; have := HK2.out; omega
     case rel => exact ⟨(Go.bits .xor .i64 (wrap64 (Int.tdiv x3_2 2)) 33800), (wrap64 (x5_2 + 1)), (by first | rfl | (simp; done) | (simp [*]; done)), (by first | rfl | (simp; done) | (simp [*]; done)), H', ⟨by have := HK1.out; have := HK2.out; omega⟩, by repeat (first | exact Drawn0.refl _ | apply Drawn0.step)⟩

/-! ### bourneref03_digit: function 99 -/
/-! ### bourneref03_Hex: function 36 -/
def bourneref03_Hex.B5 : List Nat := [0, 0, 0, 6, 14, 30, 62, 0, 0, 384, 896, 1920, 4094, 8190, 16383, 32767]
end Go.Proofs.YtdgejkiackeieaaDoor.PDigestTells
end
section
set_option linter.unusedVariables false
set_option linter.unusedSimpArgs false
-- printed by a program of this session's (xprint.py) out of the translation; Lean checks it
namespace Go.Proofs.YtdgejkiackeieaaDoor.PDigestTells
open Go.RowKit Go.Proofs.YtdgejkiackeieaaDoorW.PrintWords Go.Proofs.YtdgejkiackeieaaDoorW.PrintLast Go.Proofs.YtdgejkiackeieaaDoorW.PrintMore
attribute [local go_sem] max2_int min2_int max_two min_two max_three min_three max_four min_four   -- for this text's walks alone
set_option linter.unusedVariables false
set_option linter.unusedSimpArgs false

/-! ### bournelaw03_DigestTells: function 7 -/
end Go.Proofs.YtdgejkiackeieaaDoor.PDigestTells
end
section
set_option linter.unusedVariables false
set_option linter.unusedSimpArgs false
/- What the reference's Sum, Short, Crc, Hex and Unhex compute, in the words of the program's own specifications. -/
set_option linter.unusedVariables false
set_option linter.unusedSimpArgs false
namespace Go.Proofs.YtdgejkiackeieaaDoor.RefA
open Go.RowKit Go.Proofs.YtdgejkiackeieaaDoor Go.Proofs.YtdgejkiackeieaaDoor.PDigestTells Go.Proofs.YtdgejkiackeieaaDoorW.PrintWords Go.Proofs.YtdgejkiackeieaaDoorW.PrintMore
theorem str_uh (l : List UInt8) : strOfNums (uh l) = ⟨l.toArray⟩ := by
  apply ba_ext
  rw [strOfNums_data, uh, List.map_map]
  show _ = l
  conv => rhs; rw [← List.map_id l]
  exact List.map_congr_left (fun c _ => by simp)
theorem uh_length (l : List UInt8) : (uh l).length = l.length := List.length_map ..
theorem uh_append (a b : List UInt8) : uh (a ++ b) = uh a ++ uh b := List.map_append ..
/-! Sum -/
/-! Short -/
/-! Crc -/
theorem i64_xor_nat (a b : Nat) (ha : a < 65536) (hb : b < 65536) : Go.bits .xor .i64 (a : Int) (b : Int) = ((a ^^^ b : Nat) : Int) := by
  have hx : a ^^^ b < 65536 := Nat.xor_lt_two_pow (n := 16) ha hb
  have e1 : (BitVec.ofInt 64 (a : Int)).toNat = a := ofInt_u64 a (by omega)
  have e2 : (BitVec.ofInt 64 (b : Int)).toNat = b := ofInt_u64 b (by omega)
  show IntKind.i64.wrap (((BitVec.ofInt 64 (a : Int) ^^^ BitVec.ofInt 64 (b : Int)).toNat : Nat) : Int) = _
  rw [BitVec.toNat_xor, e1, e2, IntKind.wrap_i64]
  omega
theorem crc1 (s : ByteArray) (i4 : Int) (d : Nat) : ∀ (k x j : Nat), x < 65536 → j + d = 8 → bourneref03_Crc.l1 (k + d + 1) s x i4 j = bourneref03_Crc.l0 k s (Crc.steps d x : Nat) (wrap64 (i4 + 1)) := by
  induction d with
  | zero =>
    intro k x j hx hj
    rw [bourneref03_Crc.l1, if_neg (by omega)]
    rfl
  | succ d ih =>
    intro k x j hx hj
    have ew : wrap64 ((j : Int) + 1) = ((j + 1 : Nat) : Int) := by unfold wrap64; omega
    have h2 : wrap64 (Int.tdiv (x : Int) 2) = ((x / 2 : Nat) : Int) := by rw [Int.tdiv_eq_ediv_of_nonneg (by omega)]; unfold wrap64; omega
    rw [show k + (d + 1) + 1 = (k + d + 1) + 1 by omega, bourneref03_Crc.l1, if_pos (by omega), Int.tmod_eq_emod_of_nonneg (by omega), ew, h2]
    have hs : Crc.steps (d + 1) x = Crc.steps d (Crc.step x) := rfl
    rw [hs]
    by_cases ho : x % 2 = 1
    · have e : Go.bits .xor .i64 ((x / 2 : Nat) : Int) 33800 = ((Crc.step x : Nat) : Int) := by
        have := i64_xor_nat (x / 2) 33800 (by omega) (by decide)
        rw [show ((33800 : Nat) : Int) = 33800 from rfl] at this
        rw [this, Crc.step, if_pos ho]
      rw [if_pos (by omega), e]
      exact ih k _ (j + 1) (Crc.step_lt hx) (by omega)
    · have e : x / 2 = Crc.step x := by rw [Crc.step, if_neg ho]
      rw [if_neg (by omega), e]
      exact ih k _ (j + 1) (Crc.step_lt hx) (by omega)
theorem crc0 (s : ByteArray) (hs : s.size ≤ 1000000) (d : Nat) : ∀ (x i : Nat), x < 65536 → i + d = s.size → ∃ k, bourneref03_Crc.l0 k s x i = some ((65535 ^^^ Crc.reg x ((nb s).drop i) : Nat) : Int) := by
  induction d with
  | zero =>
    intro x i hx hi
    refine ⟨1, ?_⟩
    have e : (nb s).drop i = [] := by rw [List.drop_eq_nil_iff, nb_length]; omega
    have := i64_xor_nat x 65535 hx (by decide)
    rw [show ((65535 : Nat) : Int) = 65535 from rfl] at this
    rw [bourneref03_Crc.l0, if_neg (by omega), e, this, Nat.xor_comm]
    rfl
  | succ d ih =>
    intro x i hx hi
    have hlt : i < s.size := by omega
    have hg : (nb s)[i]'(by rw [nb_length]; exact hlt) < 256 := nb_lt s _ (List.getElem_mem _)
    have hxx : x ^^^ (nb s)[i]'(by rw [nb_length]; exact hlt) < 65536 := Nat.xor_lt_two_pow (n := 16) hx (by omega)
    obtain ⟨k, hk⟩ := ih (Crc.steps 8 (x ^^^ (nb s)[i]'(by rw [nb_length]; exact hlt))) (i + 1) (Crc.steps_lt 8 hxx) (by omega)
    refine ⟨(k + 8 + 1) + 1, ?_⟩
    rw [bourneref03_Crc.l0, if_pos (by omega), if_pos (by omega), nb_get s i hlt, wrap64_id (x := (((nb s)[i]'(by rw [nb_length]; exact hlt) : Nat) : Int)) (by omega) (by omega), i64_xor_nat x _ hx (by omega)]
    have := crc1 s (i : Int) 8 k (x ^^^ (nb s)[i]'(by rw [nb_length]; exact hlt)) 0 hxx rfl
    rw [show ((0 : Nat) : Int) = 0 from rfl] at this
    have ed : (nb s).drop i = (nb s)[i]'(by rw [nb_length]; exact hlt) :: (nb s).drop (i + 1) := List.drop_eq_getElem_cons (by rw [nb_length]; exact hlt)
    rw [this, show wrap64 ((i : Int) + 1) = ((i + 1 : Nat) : Int) by unfold wrap64; omega, hk, ed]
    rfl
theorem crc_eq (s : ByteArray) (hs : s.size ≤ 1000000) : ∃ k, bourneref03_Crc.f k s = some (crcN (nb s) : Int) := by
  obtain ⟨k, hk⟩ := crc0 s hs s.size 65535 0 (by decide) (by omega)
  exact ⟨k, hk⟩
/-! Hex, Unhex -/
end Go.Proofs.YtdgejkiackeieaaDoor.RefA
end
section
set_option linter.unusedVariables false
set_option linter.unusedSimpArgs false
/- Layer 23: the reference's Crc, Body, Escaped, Encode. -/
set_option linter.unusedVariables false
set_option linter.unusedSimpArgs false
namespace Go.Proofs.YtdgejkiackeieaaDoor.Fr
open Go.RowKit Go.Proofs.YtdgejkiackeieaaDoor Go.Proofs.YtdgejkiackeieaaDoor.Wr Go.Proofs.YtdgejkiackeieaaDoorW.PrintWords Go.Proofs.YtdgejkiackeieaaDoorW.PrintMore Go.Proofs.YtdgejkiackeieaaDoorW.PrintLast
theorem refCrc_any (s : ByteArray) (w : World) (hs : s.size ≤ 1000000) : Calls Tryd.prog 35 #[.string s] w fun e w' => e = .returned (.int .i64 (crcF s.data.toList : Int)) ∧ Drawn0 w w' := by
  obtain ⟨k, hk⟩ := RefA.crc_eq s hs
  exact PDigestTells.bourneref03_Crc.calls k s _ w hk
set_option maxRecDepth 100000 in
theorem refBody_any (s : ByteArray) (w : World) (hs : s.size ≤ 1000000) : Calls Tryd.prog 66 #[.string s] w fun e w' => e = .returned (.string (mkB (bodyB crcF s.data.toList))) ∧ Below w.heap.size w w' := by
  have hlt := crcF_lt s.data.toList
  obtain ⟨R, hR⟩ : ∃ R, mkB (bodyB crcF s.data.toList) = R := ⟨_, rfl⟩
  rw [hR]
  have HR := Lib.hid hR
  obtain ⟨n, hn⟩ : ∃ n, crcF s.data.toList = n := ⟨_, rfl⟩
  have HN := Lib.hid hn
  rw [hn] at hlt
  clear hR hn
  go_enter Tryd.func66, Tryd.ntmps66
  go_wp2_with fail
  refine (refCrc_any s w hs).mono ?_
  rw [HN.out]
  rintro e w1 ⟨rfl, b1⟩
  have B1 := Lib.hid b1.below; clear b1
  have hn0 : (0 : Int) ≤ (n : Int) := by omega
  go_wp2_with fail
  have hcv := string_of_reads (P := Tryd.prog) (src := 30) (dst := 9) (c := 2) Tryd.underlying30 Tryd.underlying5 Tryd.underlying9 (bytes_two w1 ((n : Int) % 256) ((n : Int) / 256))
  obtain ⟨C, hC⟩ : ∃ C, strOfNums [(n : Int) % 256, (n : Int) / 256] = C := ⟨_, rfl⟩
  rw [hC] at hcv
  have hCs : C.size = 2 := by rw [← hC]; exact size_nums _
  have hsum : s ++ C = R := by
    rw [← HR.out, ← hC]
    have e : strOfNums [(n : Int) % 256, (n : Int) / 256] = mkB (crcB crcF s.data.toList) := by
      rw [← str_uh]
      congr 1
      unfold crcB uh
      rw [HN.out]
      simp only [List.map_cons, List.map_nil, UInt8.toNat_ofNat', Nat.reducePow]
      congr 1
      · omega
      · congr 1; omega
    rw [e]
    unfold bodyB
    rw [← mkB_append]
  have hz : (s.size : Int) + (C.size : Int) ≤ 9223372036854775807 := by omega
  have HS := Lib.hid hsum
  have HB := Lib.hid (B1.out.trans (((Below.refl _ w1).alloc (Nat.le_refl _) (Obj.cells #[Value.int .u8 ((n : Int) % 256), Value.int .u8 ((n : Int) / 256)] 5)).mono B1.out.size))
  clear hsum hC hCs HN
  rw [hcv]
  clear hcv
  go_wp2
  go_ret
  exact ⟨ret_s' HS.out, HB.out⟩
theorem info5 : (Tryd.prog.info? 5).map (fun i => (i.zero, i.size, i.bytes)) = some (some (.int .u8 0), 1, 1) := by kernel_rfl
theorem escB_take (l : List UInt8) (k : Nat) (h : k < l.length) : escB (l.take (k + 1)) = escB (l.take k) ++ (if l[k] = 125 then [125, 93] else if l[k] = 126 then [125, 94] else [l[k]]) := by
  rw [List.take_succ_eq_append_getElem h, escB_append]
  congr 1
  rw [escB_cons, escB_nil, List.append_nil]
theorem cells_two (w : World) (u v : Value) (t : TypeId) : ∀ j x, ([u, v] : List Value)[j]? = some x → (w.alloc (.cells #[u, v] t)).cell? ((⟨w.heap.size, 0, none⟩ : Addr).add j) = some x := by
  intro j x hj
  have hb := heap_alloc_new w (Obj.cells #[u, v] t)
  rw [add_plain]
  match j, hj with
  | 0, hj => rw [blk_cell hb 0]; exact hj
  | 1, hj => rw [blk_cell hb 1]; exact hj
/-- The escaped bytes so far, in a row of the call's own. -/
structure Es (w0 w : World) (v : Value) (X : List Int) : Prop where
  own : w.ownsRow w0.heap.size 5 1 v X.length (nums .u8 X)
  below : Below w0.heap.size w0 w
theorem nums_append (k : IntKind) (a b : List Int) : nums k (a ++ b) = nums k a ++ nums k b := List.map_append ..
theorem Es.grown {w0 w w' : World} {v v' : Value} {X : List Int} {o : Obj} {m : Nat} {Y : List Int} (h : Es w0 w v X) (hl : (X ++ Y).length = X.length + m) (hown : w'.ownsRow w0.heap.size 5 1 v' (X.length + m) (nums .u8 X ++ nums .u8 Y)) (hg : (w.alloc o).grownBy w' v.ownBlock) : Es w0 w' v' (X ++ Y) :=
  ⟨by rw [nums_append, hl]; exact hown, (h.below.alloc h.below.size _).grown hg (by have := h.below.size; simp; omega) (fun k e => own_base h.own k e)⟩
set_option maxHeartbeats 4000000 in
set_option maxRecDepth 100000 in
theorem refEscaped_any (s : ByteArray) (w : World) (hs : s.size ≤ 1000000) : Calls Tryd.prog 67 #[.string s] w fun e w' => e = .returned (.string (mkB (escB s.data.toList))) ∧ Below w.heap.size w w' := by
  obtain ⟨i0, hi, hz0, hz1, hz2⟩ := info_parts info5
  go_enter Tryd.func67, Tryd.ntmps67
  go_wp2
  go_loopw [3, 4] (fun v3 v4 wr => ∃ (k : Nat) (vv : Value), vv = v3 ∧ k ≤ s.size ∧ v4 = .int .i64 k ∧ Hid (Es w wr vv (uh (escB (s.data.toList.take k))))) (fun _ v4 _ => s.size - (intOf v4).toNat)
  case atStart => exact ⟨0, _, rfl, by omega, rfl, Lib.hid (by rw [List.take_zero]; exact ⟨World.ownsRow_nil _ _ _ _, Below.refl _ _⟩)⟩
  case round =>
    obtain ⟨k, v3, rfl, hk, rfl, hE⟩ := hrel
    have hlen : (uh (escB (s.data.toList.take k))).length ≤ 2 * k := by
      rw [uh_length]
      have := (escB_length (s.data.toList.take k)).2
      rw [List.length_take] at this; omega
    obtain ⟨X, hX⟩ : ∃ X, uh (escB (s.data.toList.take k)) = X := ⟨_, rfl⟩
    rw [hX] at hE hlen
    have HX := Lib.hid hX
    clear hX
    have hown := hE.out.own
    have hsz := hE.out.below.size
    by_cases hlt : k < s.size
    · have hkl : k < s.data.toList.length := by rw [len_size]; exact hlt
      have hst := escB_take s.data.toList k hkl
      have hby := byte_at s _ rfl k hlt
      obtain ⟨c, hc⟩ : ∃ c, s.data.toList[k] = c := ⟨_, rfl⟩
      rw [hc] at hst hby
      have HST := Lib.hid hst
      clear hst hc
      by_cases h5 : c = 125
      · have h2 : uh (escB (s.data.toList.take (k + 1))) = X ++ [125, 93] := by rw [HST.out, uh_append, HX.out, h5]; rfl
        have H2 := Lib.hid h2
        subst h5
        clear h2 HST
        go_wp2_with (at_builtin; refine wpList_append_own _ rfl _ _ 30 rfl w.heap.size 5 i0 (.int .u8 0) 1 1 Tryd.underlying30 hi hz0 hz1 hz2 rfl (by decide) _ _ _ rfl (hown.alloc _) ⟨wr.heap.size, 0, none⟩ 2 2 [.int .u8 125, .int .u8 93] rfl rfl ?c1 (by simp [Value.oneCell']) ?c3 (by omega) ?c5 ?_)
        case c1 => exact cells_two wr _ _ 5
        case c3 => unfold maxLen; omega
        case c5 => simp; omega
        intro v' w6 hown' hgrow _
        have hE' := hE.out.grown (Y := [125, 93]) (by simp) hown' hgrow
        rw [← H2.out] at hE'
        have HE' := Lib.hid hE'
        clear hown' hgrow hown hE'
        go_wp2
        go_roundw
        case rel => exact ⟨k + 1, v', rfl, by omega, by go_num, HE'⟩
        case measure => simp [intOf]; omega
      · by_cases h6 : c = 126
        · have h2 : uh (escB (s.data.toList.take (k + 1))) = X ++ [125, 94] := by rw [HST.out, uh_append, HX.out, h6]; rfl
          have H2 := Lib.hid h2
          subst h6
          clear h2 HST
          go_wp2_with (at_builtin; refine wpList_append_own _ rfl _ _ 30 rfl w.heap.size 5 i0 (.int .u8 0) 1 1 Tryd.underlying30 hi hz0 hz1 hz2 rfl (by decide) _ _ _ rfl (hown.alloc _) ⟨wr.heap.size, 0, none⟩ 2 2 [.int .u8 125, .int .u8 94] rfl rfl ?c1 (by simp [Value.oneCell']) ?c3 (by omega) ?c5 ?_)
          case c1 => exact cells_two wr _ _ 5
          case c3 => unfold maxLen; omega
          case c5 => simp; omega
          intro v' w6 hown' hgrow _
          have hE' := hE.out.grown (Y := [125, 94]) (by simp) hown' hgrow
          rw [← H2.out] at hE'
          have HE' := Lib.hid hE'
          clear hown' hgrow hown hE'
          go_wp2
          go_roundw
          case rel => exact ⟨k + 1, v', rfl, by omega, by go_num, HE'⟩
          case measure => simp [intOf]; omega
        · have h2 : uh (escB (s.data.toList.take (k + 1))) = X ++ [(c.toNat : Int)] := by rw [HST.out, uh_append, HX.out, if_neg h5, if_neg h6]; rfl
          have H2 := Lib.hid h2
          have hn5 : ((c.toNat : Int) == 125) = false := by
            rw [beq_eq_false_iff_ne]; intro e; apply h5; apply UInt8.toNat_inj.1; exact Int.ofNat.inj e
          have hn6 : ((c.toNat : Int) == 126) = false := by
            rw [beq_eq_false_iff_ne]; intro e; apply h6; apply UInt8.toNat_inj.1; exact Int.ofNat.inj e
          clear h2 HST h5 h6
          go_wp2_with (at_builtin; refine wpList_append_own _ rfl _ _ 30 rfl w.heap.size 5 i0 (.int .u8 0) 1 1 Tryd.underlying30 hi hz0 hz1 hz2 rfl (by decide) _ _ _ rfl (hown.alloc _) ⟨wr.heap.size, 0, none⟩ 1 1 [.int .u8 (c.toNat : Int)] rfl rfl ?c1 (by simp [Value.oneCell']) ?c3 (by omega) ?c5 ?_)
          case c1 =>
            intro j x hj
            have hb := heap_alloc_new wr (Obj.cells #[Value.int .u8 (c.toNat : Int)] 5)
            rw [add_plain, blk_cell hb j]
            simpa using hj
          case c3 => unfold maxLen; omega
          case c5 => simp; omega
          intro v' w6 hown' hgrow _
          have hE' := hE.out.grown (Y := [(c.toNat : Int)]) (by simp) hown' hgrow
          rw [← H2.out] at hE'
          have HE' := Lib.hid hE'
          clear hown' hgrow hown hE'
          go_wp2
          go_roundw
          case rel => exact ⟨k + 1, v', rfl, by omega, by go_num, HE'⟩
          case measure => simp [intOf]; omega
    · obtain rfl : k = s.size := by omega
      have hX2 : strOfNums X = mkB (escB s.data.toList) := by
        rw [← HX.out, str_uh, List.take_of_length_le (by rw [len_size]; exact Nat.le_refl _)]
      obtain ⟨A9, c9, e9⟩ : ∃ A c, v3 = .slice A X.length c := by
        rcases hown.2 with ⟨h, h'⟩ | ⟨g, cap, cur, h, _⟩
        · exact ⟨none, 0, by rw [h, h']⟩
        · exact ⟨_, cap, h⟩
      subst e9
      have hcv := string_of_reads (P := Tryd.prog) (src := 30) (dst := 9) (c := c9) Tryd.underlying30 Tryd.underlying5 Tryd.underlying9 (own_reads' hown)
      rw [hX2] at hcv
      clear hown
      go_wp2
      go_ret
      exact ⟨rfl, hE.out.below⟩
end Go.Proofs.YtdgejkiackeieaaDoor.Fr
end
section
set_option linter.unusedVariables false
set_option linter.unusedSimpArgs false
/- The row that a conversion of a string to bytes makes: its bytes, then zeros, with the mark behind them; what a store leaves of it. -/
set_option linter.unusedVariables false
set_option linter.unusedSimpArgs false
namespace Go.Proofs.YtdgejkiackeieaaDoor
open Go.RowKit
/-- Block g holds the numbers xs as bytes, then zeros; nothing of it is frozen. -/
def Byt (w : World) (g : Nat) (xs : List Int) : Prop :=
  ∃ C : Nat, w.heap[g]? = some (.cells ((xs.map (Value.int .u8)).toArray ++ Array.replicate C (Value.int .u8 0)) 5 (xs.length + C, xs.length + C + 1))
theorem Byt.cell {w g xs} (h : Byt w g xs) (i : Nat) (hi : i < xs.length) : w.cell? ⟨g, i, none⟩ = some (.int .u8 (el xs i)) := by
  obtain ⟨C, h⟩ := h
  simp [World.cell?, h, el, hi, Array.getElem?_append]
theorem Byt.frozen {w g xs} (h : Byt w g xs) (i : Nat) (hi : i < xs.length) : w.frozen? ⟨g, i, none⟩ = false := by
  obtain ⟨C, h⟩ := h
  simp [World.frozen?, h]
  omega
theorem Byt.set {w g xs} (h : Byt w g xs) (i : Nat) (x : Int) (hi : i < xs.length) : Byt (w.setCell ⟨g, i, none⟩ (.int .u8 x)) g (xs.set i x) := by
  obtain ⟨C, h⟩ := h
  refine ⟨C, ?_⟩
  have e : ((xs.map (Value.int .u8)).toArray ++ Array.replicate C (Value.int .u8 0)).setIfInBounds i (.int .u8 x) = ((xs.set i x).map (Value.int .u8)).toArray ++ Array.replicate C (Value.int .u8 0) := by
    apply Array.ext'
    simp [List.map_set, List.set_append, hi]
  simp only [World.setCell, Array.getElem?_modify, h, if_true, Option.map_some, e, List.length_set]
  rfl
theorem Byt.drew {w g xs} (h : Byt w g xs) : Byt w.drew g xs := h
/-- The numbers as integers. -/
def ints (l : List Nat) : List Int := l.map fun (n : Nat) => (n : Int)
theorem ints_length (l : List Nat) : (ints l).length = l.length := List.length_map ..
theorem byt_made (w : World) (s : ByteArray) : Byt (Lib.bytesWorld w 5 s) w.heap.size (ints (nb s)) := by
  refine ⟨grownCap w s.size 0 5 - s.size, ?_⟩
  have e : Lib.bytesCells w 5 s = ((ints (nb s)).map (Value.int .u8)).toArray ++ Array.replicate (grownCap w s.size 0 5 - s.size) (.int .u8 0) := by
    unfold Lib.bytesCells
    congr 1
    apply Array.ext'
    simp [ints, nb]
  have hl : (Lib.bytesCells w 5 s).size = (ints (nb s)).length + (grownCap w s.size 0 5 - s.size) := by
    rw [e]; simp
  rw [Lib.bytesWorld_at_new, hl, e]
theorem byt_made_below {B : Nat} (w : World) (s : ByteArray) (hB : B ≤ w.heap.size) : Below B w (Lib.bytesWorld w 5 s) :=
  ⟨rfl, rfl, rfl, by rw [Lib.bytesWorld_size]; omega, fun i hi => Lib.bytesWorld_at_old w 5 s i (by omega)⟩
/-- The bytes made into a string. -/
theorem byt_string {w g xs} (h : Byt w g xs) (n c : Nat) (hn : n = xs.length) : (convert 30 9 (.slice (some ⟨g, 0, none⟩) n c)).run Tryd.prog w = .ok (.string (strOfNums xs)) w := by
  subst hn
  exact run_convert_bytes_arg w 30 5 Tryd.underlying30 Tryd.underlying5 g 0 _ c xs rfl (fun i hi => by rw [Nat.zero_add]; exact h.cell i hi) 9 Tryd.underlying9
theorem nb_ints (l : List Nat) (h : ∀ c ∈ l, c < 256) : nb (strOfNums (ints l)) = l := by
  rw [nb_nums]
  · unfold ints; rw [List.map_map]; conv => rhs; rw [← List.map_id l]
    exact List.map_congr_left (fun c _ => by simp)
  · intro z hz
    simp only [ints, List.mem_map] at hz
    obtain ⟨c, hc, rfl⟩ := hz
    have := h c hc
    omega
end Go.Proofs.YtdgejkiackeieaaDoor
end
section
set_option linter.unusedVariables false
set_option linter.unusedSimpArgs false
/- The contract of the law's helper 'flipped': some bits of a string, turned. -/
set_option linter.unusedVariables false
set_option linter.unusedSimpArgs false
namespace Go.Proofs.YtdgejkiackeieaaDoor
open Go.RowKit Go.Proofs.YtdgejkiackeieaaDoorW.PrintLast
/-- Bit k of a pattern, as the code asks it. -/
def pbit (p : Int) (k : Nat) : Bool := Go.bits .and .i64 (p / 2 ^ k) 1 == 1
def flip1 (X : List Int) (A : Nat) : List Int := X.set (A / 8) (Go.bits .xor .u8 (el X (A / 8)) (IntKind.u8.wrap (2 ^ (A % 8))))
def flipI (X : List Int) (bit : Nat) (p : Int) : Nat → List Int
  | 0 => X
  | k + 1 => if pbit p k = true ∧ bit + k < 8 * X.length then flip1 (flipI X bit p k) (bit + k) else flipI X bit p k
theorem flipI_length (X : List Int) (bit : Nat) (p : Int) (k : Nat) : (flipI X bit p k).length = X.length := by
  induction k with
  | zero => rfl
  | succ k ih => rw [flipI]; split
                 · rw [flip1, List.length_set, ih]
                 · exact ih
theorem flip_yes (X : List Int) (bit : Nat) (p : Int) (k : Nat) (h1 : pbit p k = true) (h2 : bit + k < 8 * X.length) : flipI X bit p (k + 1) = flip1 (flipI X bit p k) (bit + k) := by rw [flipI, if_pos ⟨h1, h2⟩]
theorem flip_no (X : List Int) (bit : Nat) (p : Int) (k : Nat) (h1 : ¬ (pbit p k = true ∧ bit + k < 8 * X.length)) : flipI X bit p (k + 1) = flipI X bit p k := by rw [flipI, if_neg h1]
theorem wrap_q8 (A : Nat) (h : A < 100000) : wrap64 ((A : Int) / 8) = ((A / 8 : Nat) : Int) := by unfold wrap64; omega
theorem tmod8 (A : Nat) : (A : Int).tmod 8 = ((A % 8 : Nat) : Int) := by rw [Int.tmod_eq_emod_of_nonneg (by omega)]; omega
end Go.Proofs.YtdgejkiackeieaaDoor
end
section
set_option linter.unusedVariables false
set_option linter.unusedSimpArgs false
/- Bits of a string, turned within 16 in a row: what the turned bytes' number is, and that the checksum tells. Plain numbers. -/
set_option linter.unusedVariables false
set_option linter.unusedSimpArgs false
namespace Go.Proofs.YtdgejkiackeieaaDoor
theorem pow_mul_xor (n a b : Nat) : 2 ^ n * (a ^^^ b) = 2 ^ n * a ^^^ 2 ^ n * b := by
  have := Nat.shiftLeft_xor_distrib (a := a) (b := b) (i := n)
  simpa [Nat.shiftLeft_eq, Nat.mul_comm] using this
theorem num_set (m : List Nat) (hm : ∀ c ∈ m, c < 256) : ∀ (j x : Nat) (hj : j < m.length), x < 256 → Crc.num (m.set j (m[j] ^^^ x)) = Crc.num m ^^^ (2 ^ (8 * j) * x) := by
  induction m with
  | nil => intro j x hj; simp at hj
  | cons c m ih =>
    intro j x hj hx
    have hc := hm c (List.mem_cons_self ..)
    cases j with
    | zero =>
      simp only [List.set_cons_zero, List.getElem_cons_zero, Crc.num]
      rw [Crc.add_eq_xor (Nat.xor_lt_two_pow (n := 8) hc hx), Crc.add_eq_xor hc, Nat.mul_zero, Nat.pow_zero, Nat.one_mul]
      ac_rfl
    | succ j =>
      simp only [List.set_cons_succ, List.getElem_cons_succ, Crc.num]
      rw [ih (fun d hd => hm d (List.mem_cons_of_mem _ hd)) j x (by simpa using hj) hx, Crc.add_eq_xor hc, Crc.add_eq_xor hc]
      have e1 := pow_mul_xor 8 (Crc.num m) (2 ^ (8 * j) * x)
      rw [show (256 : Nat) = 2 ^ 8 from rfl, e1, ← Nat.mul_assoc, ← Nat.pow_add, show 8 + 8 * j = 8 * (j + 1) by omega]
      ac_rfl
theorem el_ints (m : List Nat) (j : Nat) (hj : j < m.length) : el (ints m) j = (m[j] : Int) := by
  have h : j < (ints m).length := by rw [ints_length]; exact hj
  have e : (ints m)[j] = (m[j] : Int) := List.getElem_map ..
  unfold el
  rw [List.getD_eq_getElem?_getD, List.getElem?_eq_getElem h, e]
  rfl
theorem set_ints (m : List Nat) (j x : Nat) : (ints m).set j (x : Int) = ints (m.set j x) := by
  unfold ints; rw [List.map_set]
theorem flip1_ints (m : List Nat) (hm : ∀ c ∈ m, c < 256) (A : Nat) (hA : A < 8 * m.length) : flip1 (ints m) A = ints (m.set (A / 8) (m[A / 8]'(by omega) ^^^ 2 ^ (A % 8))) := by
  have hb : m[A / 8]'(by omega) < 256 := hm _ (List.getElem_mem _)
  have hp : 2 ^ (A % 8) < 256 := by
    rw [show (256 : Nat) = 2 ^ 8 from rfl]
    exact Nat.pow_lt_pow_right (by decide) (by omega)
  unfold flip1
  have e : IntKind.u8.wrap (2 ^ (A % 8)) = ((2 ^ (A % 8) : Nat) : Int) := by
    have e1 : ((2 : Int) ^ (A % 8)) = ((2 ^ (A % 8) : Nat) : Int) := (Int.natCast_pow 2 (A % 8)).symm
    rw [e1, IntKind.wrap_u8]
    generalize 2 ^ (A % 8) = P at hp
    omega
  rw [el_ints m _ (by omega), e, u8_xor_nat _ _ hb hp, set_ints]
theorem crc_tells (l : List Nat) (hl : ∀ c ∈ l, c < 256) (bit : Nat) (hb : bit ≤ 8 * l.length) (p : Int) (m : List Nat) (q : Nat) (hlen : m.length = l.length) (hm : ∀ c ∈ m, c < 256)
    (hx : Crc.num l ^^^ Crc.num m = 2 ^ bit * q) (hq : q < 2 ^ 16) (he : crcN l = crcN m) : l = m := by
  refine Crc.burst 65535 l m hlen.symm hl hm bit q hb hq hx ?_
  have := congrArg (65535 ^^^ ·) he
  simpa [crcN, ← Nat.xor_assoc] using this
end Go.Proofs.YtdgejkiackeieaaDoor
end
section
set_option linter.unusedVariables false
set_option linter.unusedSimpArgs false
-- printed by a program of this session's (xprint.py) out of the translation; Lean checks it
namespace Go.Proofs.YtdgejkiackeieaaDoor.PDigestResidue
open Go.RowKit Go.Proofs.YtdgejkiackeieaaDoorW.PrintWords Go.Proofs.YtdgejkiackeieaaDoorW.PrintLast Go.Proofs.YtdgejkiackeieaaDoorW.PrintMore
attribute [local go_sem] max2_int min2_int max_two min_two max_three min_three max_four min_four   -- for this text's walks alone
set_option linter.unusedVariables false
set_option linter.unusedSimpArgs false



theorem info5 : (Tryd.prog.info? 5).map (fun i => (i.zero, i.size, i.bytes)) = some (some (.int .u8 0), 1, 1) := by kernel_rfl
-- the values' own types

end Go.Proofs.YtdgejkiackeieaaDoor.PDigestResidue
end
section
set_option linter.unusedVariables false
set_option linter.unusedSimpArgs false
-- printed by a program of this session's (xprint.py) out of the translation; Lean checks it
namespace Go.Proofs.YtdgejkiackeieaaDoor.PDigestResidue
open Go.RowKit Go.Proofs.YtdgejkiackeieaaDoorW.PrintWords Go.Proofs.YtdgejkiackeieaaDoorW.PrintLast Go.Proofs.YtdgejkiackeieaaDoorW.PrintMore
attribute [local go_sem] max2_int min2_int max_two min_two max_three min_three max_four min_four   -- for this text's walks alone
set_option linter.unusedVariables false
set_option linter.unusedSimpArgs false

-- NOT PRINTED: function 140 (abi_NoEscape)

-- NOT PRINTED: function 124 (strings_Builder_copyCheck)

-- NOT PRINTED: function 92 (strings_Builder_WriteByte)

-- NOT PRINTED: function 93 (strings_Builder_String)

-- NOT PRINTED: function 141 (bytealg_IndexByteString)

-- NOT PRINTED: function 125 (stringslite_IndexByte)

-- NOT PRINTED: function 94 (strings_IndexByte)

-- NOT PRINTED: function 126 (digest_words)

/-! ### bits_RotateLeft32: function 142 -/
-- NOT PRINTED: function 127 (digest_mix)

-- NOT PRINTED: function 96 (digest_compress)

/-! ### bournelaw03_DigestResidue: function 5 -/
def bournelaw03_DigestResidue.f (a0 : ByteArray) : Option (Bool) := (bournelaw03_small.f).bind fun t101 => (if (a0.size : Int) > 2000 then (some t101) else ((digest_Crc.f a0).bind fun t102 => (if t102 < 0 then (some false) else (if t102 > 65535 then (some false) else (if t101 = true then ((some (([(Int.tmod t102 256) % 256, (wrap64 (Int.tdiv t102 256)) % 256] : List Int) : List Int)).bind fun y103 => (if a0.size + (strOfNums y103).size ≤ 9223372036854775807 then ((digest_Crc.f (a0 ++ (strOfNums y103))).bind fun t106 => (some (t106 == 3911))) else (none))) else (some false))))))
/-- THE ONE PURE STATEMENT of bournelaw03_DigestResidue: yours. -/
def bournelaw03_DigestResidue.Pure : Prop := ∀ (a0 : ByteArray), a0.size ≤ 140737488351232 → bournelaw03_DigestResidue.f a0 = some true
end Go.Proofs.YtdgejkiackeieaaDoor.PDigestResidue
end
section
set_option linter.unusedVariables false
set_option linter.unusedSimpArgs false
/- The plain law of DigestResidue: what the printed functions compute answers true for every input (no condition but the printed bounds). -/
set_option linter.unusedVariables false
namespace Go.Proofs.YtdgejkiackeieaaDoor.Pure
open Go.RowKit Go.Proofs.YtdgejkiackeieaaDoor.PDigestResidue Go.Proofs.YtdgejkiackeieaaDoor Go.Proofs.YtdgejkiackeieaaDoorW.PrintWords
theorem residue (l : List Nat) (h : ∀ c ∈ l, c < 256) : crcN (l ++ [crcN l % 256, crcN l / 256]) = 3911 := by
  have hn := crcN_lt l h
  have e : Crc.reg 65535 (l ++ [crcN l % 256, crcN l / 256]) = Crc.steps 16 65535 := by
    rw [Crc.reg_append, Crc.reg_num _ _ (by intro c hc; simp at hc; omega)]
    have : Crc.num [crcN l % 256, crcN l / 256] = crcN l := by simp only [Crc.num]; omega
    rw [this]
    show Crc.steps 16 _ = _
    have e2 : Crc.reg 65535 l ^^^ crcN l = 65535 := by
      unfold crcN
      rw [Nat.xor_comm 65535, ← Nat.xor_assoc, Nat.xor_self, Nat.zero_xor]
    rw [e2]
  have e3 : crcN (l ++ [crcN l % 256, crcN l / 256]) = 65535 ^^^ Crc.steps 16 65535 := by
    show 65535 ^^^ Crc.reg 65535 (l ++ [crcN l % 256, crcN l / 256]) = _
    rw [e]
  rw [e3]
  decide +kernel
theorem DigestResidue : bournelaw03_DigestResidue.Pure := by
  intro a0 h0
  unfold bournelaw03_DigestResidue.f bournelaw03_small.f
  rw [Option.bind_some]
  by_cases hs : (a0.size : Int) > 2000
  · rw [if_pos hs]
  rw [if_neg hs]
  have hn := crcN_lt (nb a0) (nb_lt a0)
  have ef : digest_Crc.f a0 = some (crcN (nb a0) : Int) := if_pos (by omega)
  rw [ef, Option.bind_some, if_neg (by omega), if_neg (by omega), if_pos rfl, Option.bind_some]
  have e1 : Int.tmod (crcN (nb a0) : Int) 256 % 256 = ((crcN (nb a0) % 256 : Nat) : Int) := by
    rw [Int.tmod_eq_emod_of_nonneg (by omega)]; omega
  have e2 : wrap64 (Int.tdiv (crcN (nb a0) : Int) 256) % 256 = ((crcN (nb a0) / 256 : Nat) : Int) := by
    rw [Int.tdiv_eq_ediv_of_nonneg (by omega), wrap64_id (by omega) (by omega)]; omega
  rw [e1, e2]
  have sz := size_nums [((crcN (nb a0) % 256 : Nat) : Int), ((crcN (nb a0) / 256 : Nat) : Int)]
  have hnb : nb (a0 ++ strOfNums [((crcN (nb a0) % 256 : Nat) : Int), ((crcN (nb a0) / 256 : Nat) : Int)]) = nb a0 ++ [crcN (nb a0) % 256, crcN (nb a0) / 256] := by
    rw [nb_append, nb_nums _ (by intro z hz; simp at hz; omega)]
    simp only [List.map_cons, List.map_nil, Int.toNat_natCast]
  rw [if_pos (by rw [sz]; simp; omega)]
  have ef2 : digest_Crc.f (a0 ++ strOfNums [((crcN (nb a0) % 256 : Nat) : Int), ((crcN (nb a0) / 256 : Nat) : Int)]) = some (3911 : Int) := by
    unfold digest_Crc.f
    rw [if_pos (by rw [size_append, sz]; simp; omega), hnb, residue _ (nb_lt a0)]
    rfl
  rw [ef2, Option.bind_some]
  rfl
end Go.Proofs.YtdgejkiackeieaaDoor.Pure
end
section
set_option linter.unusedVariables false
set_option linter.unusedSimpArgs false
/- The plain law of FrameBursts. -/
set_option linter.unusedVariables false
set_option linter.unusedSimpArgs false
namespace Go.Proofs.YtdgejkiackeieaaDoor.Fr
open Go.RowKit Go.Proofs.YtdgejkiackeieaaDoor Go.Proofs.YtdgejkiackeieaaDoor.Wr Go.Proofs.YtdgejkiackeieaaDoorW.PrintWords Go.Proofs.YtdgejkiackeieaaDoorW.PrintMore Go.Proofs.YtdgejkiackeieaaDoorW.PrintLast
theorem i64_and1 (n : Int) : Go.bits .and .i64 n 1 = n % 2 := by
  have h1 : (BitVec.ofInt 64 1).toNat = 2 ^ 1 - 1 := by decide
  have key : (BitVec.ofInt 64 n &&& BitVec.ofInt 64 1).toNat = (n % ((2 ^ 64 : Nat) : Int)).toNat % 2 ^ 1 := by
    rw [BitVec.toNat_and, BitVec.toNat_ofInt, h1, Nat.and_two_pow_sub_one_eq_mod]
  show IntKind.i64.wrap ((BitVec.ofInt 64 n &&& BitVec.ofInt 64 1).toNat : Nat) = n % 2
  rw [key, IntKind.wrap_i64]
  omega
theorem pbit_u16 (p : Int) (h0 : 0 ≤ p) (h1 : p < 65536) (k : Nat) : (Go.bits .and .u16 (p / 2 ^ k) 1 == 1) = pbit p k := by
  obtain ⟨P, rfl⟩ := Int.eq_ofNat_of_zero_le h0
  have e : ((P : Int) / 2 ^ k) = ((P / 2 ^ k : Nat) : Int) := by simp
  have hlt : P / 2 ^ k < 65536 := Nat.lt_of_le_of_lt (Nat.div_le_self _ _) (by omega)
  unfold pbit
  rw [e]
  generalize P / 2 ^ k = x at hlt
  rw [CrcPrint.and_one x hlt, i64_and1]
  have : ((x % 2 : Nat) : Int) = (x : Int) % 2 := by omega
  rw [this]
/-- Whether a bit was turned. -/
def flagF (n bit : Nat) (p : Int) : Nat → Bool
  | 0 => false
  | k + 1 => flagF n bit p k || (pbit p k && decide (bit + k < 8 * n))
theorem flag_yes {n bit : Nat} {p : Int} {k : Nat} (h1 : pbit p k = true) (h2 : bit + k < 8 * n) : flagF n bit p (k + 1) = true := by rw [flagF, h1, decide_eq_true h2]; simp
theorem flag_no {n bit : Nat} {p : Int} {k : Nat} (h : ¬ (pbit p k = true ∧ bit + k < 8 * n)) : flagF n bit p (k + 1) = flagF n bit p k := by
  have : (pbit p k && decide (bit + k < 8 * n)) = false := by
    rw [Bool.eq_false_iff]; intro e; rw [Bool.and_eq_true, decide_eq_true_eq] at e; exact h e
  rw [flagF, this, Bool.or_false]
theorem flag_none (X : List Int) (bit : Nat) (p : Int) : ∀ k, flagF X.length bit p k = false → flipI X bit p k = X
  | 0, _ => rfl
  | k + 1, h => by
    rw [flagF, Bool.or_eq_false_iff] at h
    rw [flip_no, flag_none X bit p k h.1]
    intro ⟨h1, h2⟩
    rw [h1, decide_eq_true h2] at h
    exact absurd h.2 (by decide)
theorem flipI_flag (l : List Nat) (hl : ∀ c ∈ l, c < 256) (bit : Nat) (p : Int) (k : Nat) :
    ∃ m q, flipI (ints l) bit p k = ints m ∧ m.length = l.length ∧ (∀ c ∈ m, c < 256) ∧ Crc.num l ^^^ Crc.num m = 2 ^ bit * q ∧ q < 2 ^ k ∧ (flagF l.length bit p k = true → q ≠ 0) := by
  induction k with
  | zero => exact ⟨l, 0, rfl, rfl, hl, by rw [Nat.xor_self, Nat.mul_zero], Nat.one_pos, fun h => by cases h⟩
  | succ k ih =>
    obtain ⟨m, q, e, hlen, hm, hx, hq, hf⟩ := ih
    have hq2 : q < 2 ^ (k + 1) := by rw [Nat.pow_succ]; omega
    by_cases h : pbit p k = true ∧ bit + k < 8 * l.length
    · rw [flipI, ints_length, e, if_pos h]
      obtain ⟨hp, hlt⟩ := h
      have hj : (bit + k) / 8 < m.length := by omega
      have h8 : 2 ^ ((bit + k) % 8) < 256 := by
        rw [show (256 : Nat) = 2 ^ 8 from rfl]
        exact Nat.pow_lt_pow_right (by decide) (by omega)
      refine ⟨m.set ((bit + k) / 8) (m[(bit + k) / 8]'hj ^^^ 2 ^ ((bit + k) % 8)), q ^^^ 2 ^ k, flip1_ints m hm _ (by omega), by rw [List.length_set, hlen], ?_, ?_, ?_, fun _ h0 => ?_⟩
      · intro c hc
        rcases List.mem_or_eq_of_mem_set hc with h | h
        · exact hm c h
        · rw [h]; exact Nat.xor_lt_two_pow (n := 8) (hm _ (List.getElem_mem _)) h8
      · rw [num_set m hm _ _ hj h8, ← Nat.xor_assoc, hx, pow_mul_xor, ← Nat.pow_add, ← Nat.pow_add, show 8 * ((bit + k) / 8) + (bit + k) % 8 = bit + k by omega]
      · exact Nat.xor_lt_two_pow hq2 (Nat.pow_lt_pow_right (by decide) (by omega))
      · have e2 := congrArg (· ^^^ 2 ^ k) h0
        simp only [Nat.xor_assoc, Nat.xor_self, Nat.xor_zero, Nat.zero_xor] at e2
        omega
    · rw [flag_no h, flipI, ints_length, e, if_neg h]
      exact ⟨m, q, rfl, hlen, hm, hx, hq2, hf⟩
theorem body_nums (l : List UInt8) : (bodyB crcF l).map UInt8.toNat = l.map UInt8.toNat ++ [crcN (l.map UInt8.toNat) % 256, crcN (l.map UInt8.toNat) / 256] := by
  have h := crcF_lt l
  unfold bodyB crcB
  rw [List.map_append]
  congr 1
  show [(UInt8.ofNat (crcF l % 256)).toNat, (UInt8.ofNat (crcF l / 256)).toNat] = [crcF l % 256, crcF l / 256]
  rw [UInt8.toNat_ofNat', UInt8.toNat_ofNat', Nat.mod_eq_of_lt (show crcF l % 256 < 2 ^ 8 by omega), Nat.mod_eq_of_lt (show crcF l / 256 < 2 ^ 8 by omega)]
theorem body_residue (l : List UInt8) : crcN ((bodyB crcF l).map UInt8.toNat) = 3911 := by
  rw [body_nums]
  exact Pure.residue _ (by intro c hc; obtain ⟨x, _, rfl⟩ := List.mem_map.1 hc; exact x.toNat_lt)
theorem bursts_plain (s T : ByteArray) (hT : mkB (bodyB crcF s.data.toList) = T) (hs : s.size ≤ 900) (n bit : Nat) (hn : T.size = n) (hbit : bit ≤ 8 * n) (p : Int) (Z : List Int) (hZ : ints (nb T) = Z) (Y : ByteArray) (hY : strOfNums (flipI Z bit p 16) = Y) :
    ((pays crcF (126 :: (escB Y.data.toList ++ [126]))).length == 0) = flagF n bit p 16 := by
  have hlen : (nb T).length = n := by rw [nb_length, hn]
  have hTd : nb T = (bodyB crcF s.data.toList).map UInt8.toNat := by rw [← hT]; rfl
  rw [pays_alone]
  obtain ⟨m, q, em, hml, hm, hx, hq, hf⟩ := flipI_flag (nb T) (nb_lt T) bit p 16
  rw [hlen] at hf hml
  cases hfl : flagF n bit p 16
  · have e0 : flipI Z bit p 16 = Z := flag_none Z bit p 16 (by rw [← hZ, ints_length, hlen]; exact hfl)
    have hYT : Y = T := by
      rw [← hY, e0, ← hZ]
      exact nb_inj (nb_ints _ (nb_lt T))
    have hYd : Y.data.toList = bodyB crcF s.data.toList := by rw [hYT, ← hT]
    rw [hYd]
    have hfr := (frB_length crcF s.data.toList).2
    rw [len_size] at hfr
    have : payB crcF (escB (bodyB crcF s.data.toList)) = some s.data.toList := (payB_some crcF).2 ⟨rfl, by
      show (frB crcF s.data.toList).length ≤ 2048
      omega⟩
    rw [this]; rfl
  · have hYm : nb Y = m := by rw [← hY, ← hZ, em]; exact nb_ints m hm
    cases hp : payB crcF (escB Y.data.toList) with
    | none => rfl
    | some r =>
      exfalso
      have h1 := ((payB_some crcF).1 hp).1
      have h2 : Y.data.toList = bodyB crcF r := escB_inj h1
      have h3 : m = (bodyB crcF r).map UInt8.toNat := by rw [← hYm, ← h2]; rfl
      have h4 : crcN (nb T) = crcN m := by rw [hTd, h3, body_residue, body_residue]
      have h5 := crc_tells (nb T) (nb_lt T) bit (by rw [hlen]; exact hbit) p m q (by rw [hml, hlen]) hm hx hq h4
      rw [h5, Nat.xor_self] at hx
      have h6 := hf hfl
      rcases Nat.mul_eq_zero.1 hx.symm with h | h
      · exact absurd h (Nat.ne_of_gt (Nat.two_pow_pos bit))
      · exact h6 h
end Go.Proofs.YtdgejkiackeieaaDoor.Fr
end
section
set_option linter.unusedVariables false
set_option linter.unusedSimpArgs false
/- The walk of FrameBursts. -/
set_option linter.unusedVariables false
set_option linter.unusedSimpArgs false
namespace Go.Proofs.YtdgejkiackeieaaDoor.Fr
open Go.RowKit Go.Proofs.YtdgejkiackeieaaDoor Go.Proofs.YtdgejkiackeieaaDoor.Wr Go.Proofs.YtdgejkiackeieaaDoorW.PrintWords Go.Proofs.YtdgejkiackeieaaDoorW.PrintMore Go.Proofs.YtdgejkiackeieaaDoorW.PrintLast
theorem q_facts {A n : Nat} (h : A < 8 * n) : (A : Int) < 8 * (n : Int) ∧ ((A / 8 : Nat) : Int) < (n : Int) ∧ A / 8 < n ∧ (0 : Int) ≤ ((A % 8 : Nat) : Int) ∧ ((A % 8 : Nat) : Int) ≤ 7 := by omega
set_option maxHeartbeats 8000000 in
set_option maxRecDepth 100000 in
theorem FrameBursts_any (s : ByteArray) (a1 : Int) (p : Int) (w : World) (h1 : InR a1) (hp0 : 0 ≤ p) (hp1 : p < 65536) (hM : MaxW w) : Calls Tryd.prog 17 #[.string s, .int .i64 a1, .int .u16 p] w fun e w' => e = .returned (.bool true) ∧ Below w.heap.size w w' := by
  have kc := fun (w : World) (s : ByteArray) => Lib.run_convert_string_bytes (P := Tryd.prog) w 9 30 5 s (u := .string) Tryd.underlying9 Tryd.underlying30 Tryd.underlying5
  have HM := Lib.hid hM
  clear hM
  go_enter Tryd.func17, Tryd.ntmps17
  go_wp2_with fail
  refine (small23_any w HM.out).mono ?_
  rintro e w1 ⟨rfl, b1⟩
  have B1 := Lib.hid b1; clear b1
  by_cases hs : s.size ≤ 900
  · have hs' : ¬ (900 : Int) < (s.size : Int) := by omega
    by_cases hz : p = 0
    · have hz' : (p == 0) = true := by simpa using hz
      go_wp2
      go_ret
      exact ⟨rfl, B1.out⟩
    · have hz' : (p == 0) = false := by simpa using hz
      go_wp2_with fail
      refine (refBody_any s w1 (by omega)).mono ?_
      obtain ⟨T, hT⟩ : ∃ T, mkB (bodyB crcF s.data.toList) = T := ⟨_, rfl⟩
      obtain ⟨n, hn⟩ : ∃ n : Nat, T.size = n := ⟨_, rfl⟩
      have hTz : n = s.size + 2 := by rw [← hn, ← hT, mkB_size, bodyB_length, len_size]
      have hn1 : 2 ≤ n := by omega
      have hn2 : n ≤ 902 := by omega
      rw [hT]
      rintro e w2 ⟨rfl, b2⟩
      have B2 := Lib.hid (B1.out.trans (b2.mono B1.out.size)); clear b2
      have HT := Lib.hid hT; clear hT hTz
      obtain ⟨t, ht⟩ : ∃ t, a1.tmod (8 * (n : Int)) = t := ⟨_, rfl⟩
      have ht1 : t < 8 * (n : Int) := by rw [← ht]; exact Int.tmod_lt_of_pos _ (by omega)
      have ht2 : -(8 * (n : Int)) < t := by
        have := Int.lt_tmod_of_pos a1 (show (0 : Int) < 8 * (n : Int) by omega)
        rw [← ht]; omega
      go_upto_region 5 with fail
      have hZ0 : (ints (nb T)).length = n := by rw [ints_length, nb_length, hn]
      have hb0 := byt_made w2 T
      have hbl := byt_made_below (B := w2.heap.size) w2 T (Nat.le_refl _)
      obtain ⟨W, hW⟩ : ∃ W, Lib.bytesWorld w2 5 T = W := ⟨_, rfl⟩
      obtain ⟨C, hC⟩ : ∃ C : Nat, grownCap w2 n 0 5 = C := ⟨_, rfl⟩
      obtain ⟨g, hg⟩ : ∃ g : Nat, w2.heap.size = g := ⟨_, rfl⟩
      obtain ⟨Z, hZ⟩ : ∃ Z, ints (nb T) = Z := ⟨_, rfl⟩
      rw [hW, hC, hg]
      rw [hW, hg, hZ] at hb0
      rw [hW] at hbl
      rw [hZ] at hZ0
      have HZ := Lib.hid hZ; have HZ0 := Lib.hid hZ0; have HG := Lib.hid hg; have HN := Lib.hid hn
      have B3 := Lib.hid (B2.out.trans (hbl.mono B2.out.size))
      clear hW hC kc hZ hZ0 hg hbl hn
      by_cases hneg : t < 0
      all_goals
        go_wp2_with fail
        first
          | (obtain ⟨bit, hbit⟩ := Int.eq_ofNat_of_zero_le (show 0 ≤ t + 8 * (n : Int) by omega); rw [hbit])
          | (obtain ⟨bit, hbit⟩ := Int.eq_ofNat_of_zero_le (show 0 ≤ t by omega); rw [hbit])
        have hbit2 : bit < 8 * n := by omega
        have HTT := Lib.hid ht; have HH1 := Lib.hid h1
        clear hbit ht1 ht2 ht hneg h1
        have hp16 := pbit_u16 p hp0 hp1
        have HP16 := Lib.hid hp16
        clear hp16
        go_loopw [9, 10] (fun v9 v10 wr => ∃ k : Nat, k ≤ 16 ∧ v10 = .int .i64 k ∧ v9 = .bool (flagF n bit p k) ∧ Byt wr g (flipI Z bit p k) ∧ Hid (Below w.heap.size w wr)) (fun _ i _ => 16 - (intOf i).toNat)
        case atStart => exact ⟨0, by omega, rfl, rfl, hb0, B3⟩
        case round =>
          obtain ⟨k, hk, rfl, rfl, hA, hbw⟩ := hrel
          have HL := flipI_length Z bit p k
          have HL0 : Z.length = n := HZ0.out
          obtain ⟨X, hX⟩ : ∃ X, flipI Z bit p k = X := ⟨_, rfl⟩
          obtain ⟨b, hb⟩ : ∃ b, flagF n bit p k = b := ⟨_, rfl⟩
          rw [hX] at hA HL
          have HX := Lib.hid hX; clear hX
          rw [hb]
          have HBB := Lib.hid hb; clear hb
          by_cases hlt : k < 16
          · obtain ⟨A, hA1⟩ : ∃ A : Nat, bit + k = A := ⟨_, rfl⟩
            have a1' : (bit : Int) + (k : Int) = (A : Int) := by omega
            have hA2 : A < 100000 := by omega
            have hpb := HP16.out k
            cases hp : pbit p k with
            | false =>
              rw [hp] at hpb
              have HF := Lib.hid (flip_no Z bit p k (by rw [hp]; simp))
              have HFL := Lib.hid (flag_no (n := n) (bit := bit) (p := p) (k := k) (by rw [hp]; simp))
              have HLh := Lib.hid HL; have HL0h := Lib.hid HL0; have HA1 := Lib.hid hA1
              clear hp HL HL0 hA1
              go_wp2
              go_roundw
              case rel => exact ⟨k + 1, by omega, by go_num, by rw [HFL.out, HBB.out], by rw [HF.out, HX.out]; exact hA, hbw⟩
              case measure => simp [intOf]; omega
            | true =>
              rw [hp] at hpb
              by_cases hin : A < 8 * n
              · have HF := Lib.hid (flip_yes Z bit p k hp (by omega))
                have HFL := Lib.hid (flag_yes (n := n) (bit := bit) hp (by omega))
                obtain ⟨q, hq⟩ : ∃ q, A / 8 = q := ⟨_, rfl⟩
                obtain ⟨r, hr⟩ : ∃ r, A % 8 = r := ⟨_, rfl⟩
                have w1' := wrap_q8 A hA2
                have w2' := tmod8 A
                obtain ⟨i8, i1, i6n, i4, i5⟩ := q_facts hin
                rw [hq] at w1' i1 i6n
                rw [hr] at w2' i4 i5
                have i6 : q < X.length := by rw [HL, HL0]; exact i6n
                have c0 := hA.cell q i6
                have f0 := hA.frozen q i6
                have HLh := Lib.hid HL; have HL0h := Lib.hid HL0; have HA1 := Lib.hid hA1; have HQ := Lib.hid hq; have HR := Lib.hid hr
                clear hp HL HL0 hA1 hr
                go_wp2
                go_roundw
                case rel =>
                  refine ⟨k + 1, by omega, by go_num, by rw [HFL.out], ?_, ?_⟩
                  · rw [HF.out, HX.out, HA1.out, flip1, HQ.out, HR.out, show IntKind.u8.wrap (2 ^ r) = 2 ^ r % 256 from IntKind.wrap_u8 _]
                    exact hA.set q _ i6
                  · exact Lib.hid (below_set hbw.out (by rw [← HG.out]; exact B2.out.size))
                case measure => simp [intOf]; omega
              · have HF := Lib.hid (flip_no Z bit p k (by omega))
                have HFL := Lib.hid (flag_no (n := n) (bit := bit) (p := p) (k := k) (by omega))
                have i8 : ¬ (A : Int) < 8 * n := by omega
                have HLh := Lib.hid HL; have HL0h := Lib.hid HL0; have HA1 := Lib.hid hA1
                clear hp HL HL0 hA1 hin
                go_wp2
                go_roundw
                case rel => exact ⟨k + 1, by omega, by go_num, by rw [HFL.out, HBB.out], by rw [HF.out, HX.out]; exact hA, hbw⟩
                case measure => simp [intOf]; omega
          · obtain rfl : k = 16 := by omega
            have kd := byt_string hA n C (by omega)
            obtain ⟨Y, hY⟩ : ∃ Y, strOfNums X = Y := ⟨_, rfl⟩
            rw [hY] at kd
            have hpl := bursts_plain s T HT.out hs n bit HN.out (by omega) p Z HZ.out Y (by rw [HX.out]; exact hY)
            rw [HBB.out] at hpl
            have hYz : Y.size = n := by rw [← hY, size_nums]; omega
            have HPL := Lib.hid hpl; have HY := Lib.hid hYz
            have HLh := Lib.hid HL; have HL0h := Lib.hid HL0
            clear HL HL0 hlt hpl hYz hY
            go_wp2_with fail
            refine (refEscaped_any Y wr (by have := HY.out; omega)).mono ?_
            obtain ⟨E, hE⟩ : ∃ E, mkB (escB Y.data.toList) = E := ⟨_, rfl⟩
            have hEz : E.size ≤ 1804 := by
              have := (escB_length Y.data.toList).2
              have h2 := HY.out
              rw [len_size] at this
              rw [← hE, mkB_size]; omega
            have hEl : E.data.toList = escB Y.data.toList := by rw [← hE]
            rw [hE]
            rintro e w4 ⟨rfl, b4⟩
            have B4 := Lib.hid (hbw.out.trans (b4.mono hbw.out.size)); have HEL := Lib.hid hEl
            clear b4 hE hEl kd hA
            go_wp2_with fail
            obtain ⟨F, hF⟩ : ∃ F, (⟨#[126]⟩ : ByteArray) ++ E ++ (⟨#[126]⟩ : ByteArray) = F := ⟨_, rfl⟩
            have hFl : F.data.toList = 126 :: (escB Y.data.toList ++ [126]) := by
              rw [← hF, ByteArray.data_append, ByteArray.data_append, Array.toList_append, Array.toList_append, HEL.out]; rfl
            have hFz : F.size ≤ 1806 := by rw [← hF, ByteArray.size_append, ByteArray.size_append]; show 1 + E.size + 1 ≤ 1806; omega
            rw [hF]
            clear hF
            refine (Decode_any F w4 (HM.out.below B4.out) (by omega)).mono ?_
            obtain ⟨D, hD⟩ : ∃ D, decL F = D := ⟨_, rfl⟩
            have hDl : (D.length == 0) = b := by rw [← hD]; unfold decL; rw [List.length_map, hFl]; exact HPL.out
            have hDi : ((D.length : Int) == 0) = b := by rw [← hDl]; cases D with
              | nil => rfl
              | cons => simp; omega
            rw [hD]
            obtain ⟨R2, hR2⟩ : ∃ D, mkB (restB F.data.toList) = D := ⟨_, rfl⟩
            rw [hR2]
            rintro e w5 ⟨v5, rfl, r5, b5⟩
            obtain ⟨A5, c5, rfl, hc5, hC5⟩ := Kd.R_reads r5
            have B5 := Lib.hid (B4.out.trans (b5.mono B4.out.size)); clear b5 r5 hC5 hD hDl hR2 hFl HEL HPL
            go_wp2
            go_ret
            exact ⟨by cases b <;> rfl, B5.out⟩
  · have hs' : (900 : Int) < (s.size : Int) := by omega
    go_wp2
    go_ret
    exact ⟨rfl, B1.out⟩
end Go.Proofs.YtdgejkiackeieaaDoor.Fr
end
