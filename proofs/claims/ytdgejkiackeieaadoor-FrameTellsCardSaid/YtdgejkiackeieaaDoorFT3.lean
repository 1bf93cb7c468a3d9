/- Texts of this claim, joined: RefB, PDigestTells4, PDigestTells5, RefC, FrameR, FrameS, FrameT, FLOnly, FrameU, FLTells. -/
import Derived.Test.YtdgejkiackeieaaDoorFT1
import Derived.Test.YtdgejkiackeieaaDoorFT2
section
set_option linter.unusedVariables false
set_option linter.unusedSimpArgs false
/- What the reference's compress computes, in the words of the program's own specifications. -/
set_option linter.unusedVariables false
set_option linter.unusedSimpArgs false
namespace Go.Proofs.YtdgejkiackeieaaDoor.RefA
open Go.RowKit Go.Proofs.YtdgejkiackeieaaDoor Go.Proofs.YtdgejkiackeieaaDoor.PDigestTells Go.Proofs.YtdgejkiackeieaaDoorW.PrintWords Go.Proofs.YtdgejkiackeieaaDoorW.PrintMore
/-! the start -/
end Go.Proofs.YtdgejkiackeieaaDoor.RefA
end
section
set_option linter.unusedVariables false
set_option linter.unusedSimpArgs false
-- printed by a program of this session's (xprint.py) out of the translation; Lean checks it
namespace Go.Proofs.YtdgejkiackeieaaDoor.PDigestTells
open Go.RowKit Go.Proofs.YtdgejkiackeieaaDoorW.PrintWords Go.Proofs.YtdgejkiackeieaaDoorW.PrintLast Go.Proofs.YtdgejkiackeieaaDoorW.PrintMore
attribute [local go_sem] max2_int min2_int max_two min_two max_three min_three max_four min_four   -- for this text's walks alone
set_option linter.unusedVariables false
set_option linter.unusedSimpArgs false

/-! ### bourneref03_Sum: function 32 -/
/-! ### bourneref03_Short: function 34 -/
/-! ### bourneref03_Crc: function 35 -/
mutual
def bourneref03_Crc.l0 : Nat → ByteArray → Int → Int → Option (Int)
 | 0, _, _, _ => none
 | k + 1, x0, x3, x4 => if x4 < (x0.size : Int) then (if 0 ≤ x4 then (bourneref03_Crc.l1 k x0 (Go.bits .xor .i64 x3 (wrap64 (bt x0 x4))) x4 0) else (none)) else (some (Go.bits .xor .i64 x3 65535))
def bourneref03_Crc.l1 : Nat → ByteArray → Int → Int → Int → Option (Int)
 | 0, _, _, _, _ => none
 | k + 1, x0, x3, x4, x5 => if x5 < 8 then (if (Int.tmod x3 2) = 1 then (bourneref03_Crc.l1 k x0 (Go.bits .xor .i64 (wrap64 (Int.tdiv x3 2)) 33800) x4 (wrap64 (x5 + 1))) else (bourneref03_Crc.l1 k x0 (wrap64 (Int.tdiv x3 2)) x4 (wrap64 (x5 + 1)))) else (bourneref03_Crc.l0 k x0 x3 (wrap64 (x4 + 1)))
end
def bourneref03_Crc.f (k : Nat) (a0 : ByteArray) : Option (Int) := bourneref03_Crc.l0 k a0 65535 0
set_option maxHeartbeats 8000000 in
set_option maxRecDepth 100000 in
theorem bourneref03_Crc.calls (k : Nat) (a0 : ByteArray) (r : Int) (w : World) (h : bourneref03_Crc.f k a0 = some r) :
  Calls Tryd.prog 35 #[.string a0] w fun e w' => e = .returned (.int .i64 r) ∧ Drawn0 w w' := by
 have H : (bourneref03_Crc.l0 k a0 65535 0) = some r := h
 clear h
 have H' := Aside0.mk H
 clear H
 go_enter Tryd.func35, Tryd.ntmps35
 go_wp2
 go_loopg [3, 4] k (fun kq v3 v4 w' => ∃ (x3_1 : Int) (x4_1 : Int), v3 = .int .i64 x3_1 ∧ v4 = .int .i64 x4_1 ∧ Aside0 (bourneref03_Crc.l0 kq a0 x3_1 x4_1 = some r) ∧ Aside0 (kq ≤ k) ∧ Drawn0 w w')
 case atStart => exact ⟨(65535), (0), (by first | rfl | (simp; done) | (simp [*]; done)), (by first | rfl | (simp; done) | (simp [*]; done)), H', ⟨Nat.le_refl _⟩, by repeat (first | exact Drawn0.refl _ | apply Drawn0.step)⟩
 case round =>
  clear H'
  obtain ⟨x3_1, x4_1, rfl, rfl, HA, HK1, ⟨m1, rfl⟩⟩ := hrel
  cases gk with
  | zero => exact absurd HA.out (by simp [bourneref03_Crc.l0])
  | succ k1 =>
   have H := HA.out
   clear HA
   simp only [bourneref03_Crc.l0] at H
   by_cases c2 : x4_1 < (a0.size : Int)
   rotate_left
   ·rw [if_neg c2] at H
    have c2b0 : decide (x4_1 < (a0.size : Int)) = false := decide_eq_false c2
    clear c2
    obtain rfl := Option.some.inj H
    go_wp2
    go_ret
    exact ⟨by first | rfl | (simp; done) | (simp [*]; done), by repeat (first | exact Drawn0.refl _ | apply Drawn0.step)⟩
   rw [if_pos c2] at H
   have c2b0 : decide (x4_1 < (a0.size : Int)) = true := decide_eq_true c2
   clear c2
   by_cases c3 : 0 ≤ x4_1
   rotate_left
   ·rw [if_neg c3] at H
    exact absurd H (by simp)
   rw [if_pos c3] at H
   have c3b0 : decide (0 ≤ x4_1) = true := decide_eq_true c3
   clear c3
   have H' := Aside0.mk H
   clear H
   have p4 : 0 ≤ (x4_1 : Int) := of_decide_eq_true (by first | (with_reducible assumption) | assumption)
   have q4 : x4_1 < (a0.size : Int) := of_decide_eq_true (by first | (with_reducible assumption) | assumption)
   have hx4 := bt_at a0 x4_1
   replace p4 := eq_true p4
   replace q4 := eq_true q4
   go_wp2
   go_loopg [3, 5] k1 (fun kq v3 v5 w' => ∃ (x3_2 : Int) (x5_2 : Int), v3 = .int .i64 x3_2 ∧ v5 = .int .i64 x5_2 ∧ Aside0 (bourneref03_Crc.l1 kq a0 x3_2 x4_1 x5_2 = some r) ∧ Aside0 (kq ≤ k1) ∧ Drawn0 w w')
   case atStart => exact ⟨(Go.bits .xor .i64 x3_1 (wrap64 (bt a0 x4_1))), (0), (by first | rfl | (simp; done) | (simp [*]; done)), (by first | rfl | (simp; done) | (simp [*]; done)), H', ⟨Nat.le_refl _⟩, by repeat (first | exact Drawn0.refl _ | apply Drawn0.step)⟩
   case round =>
    clear H'
    try clear c2
    try clear c2b0
    try clear p2
    try clear c3
    try clear c3b0
    try clear p4
    try clear q4
    try clear hx4
    try clear p4
    try clear q4
    obtain ⟨x3_2, x5_2, rfl, rfl, HA, HK2, ⟨m2, rfl⟩⟩ := hrel
    cases gk with
    | zero => exact absurd HA.out (by simp [bourneref03_Crc.l1])
    | succ k2 =>
     have H := HA.out
     clear HA
     simp only [bourneref03_Crc.l1] at H
     by_cases c5 : x5_2 < 8
     rotate_left
     ·rw [if_neg c5] at H
      have c5b0 : decide (x5_2 < 8) = false := decide_eq_false c5
      clear c5
      have H' := Aside0.mk H
      clear H
      go_wp2
      go_roundg k2
      case measure => have := HK1.out; have := HK2.out; omega
      case rel => exact ⟨(x3_2), (wrap64 (x4_1 + 1)), (by first | rfl | (simp; done) | (simp [*]; done)), (by first | rfl | (simp; done) | (simp [*]; done)), H', ⟨by have := HK1.out; have := HK2.out; omega⟩, by repeat (first | exact Drawn0.refl _ | apply Drawn0.step)⟩
     rw [if_pos c5] at H
     have c5b0 : decide (x5_2 < 8) = true := decide_eq_true c5
     clear c5
     by_cases c6 : (Int.tmod x3_2 2) = 1
     rotate_left
     ·rw [if_neg c6] at H
      have c6b0 : ((Int.tmod x3_2 2) == 1) = false := beq_eq_false_iff_ne.mpr c6
      have c6b1 : ((Int.tmod x3_2 2) != 1) = true := bne_iff_ne.mpr c6
      have H' := Aside0.mk H
      clear H
      go_wp2
      go_roundg k2
      case measure => have := HK1.out; have := HK2.out; omega
      case rel => exact ⟨(wrap64 (Int.tdiv x3_2 2)), (wrap64 (x5_2 + 1)), (by first | rfl | (simp; done) | (simp [*]; done)), (by first | rfl | (simp; done) | (simp [*]; done)), H', ⟨by have := HK1.out; have := HK2.out; omega⟩, by repeat (first | exact Drawn0.refl _ | apply Drawn0.step)⟩
     rw [if_pos c6] at H
     have c6b0 : ((Int.tmod x3_2 2) == 1) = true := beq_iff_eq.mpr c6
     have c6b1 : ((Int.tmod x3_2 2) != 1) = false := bne_eq_false_iff_eq.mpr c6
     clear c6
     have H' := Aside0.mk H
     clear H
     go_wp2
     go_roundg k2
     case measure => have := HK1.out; have := HK2.out; omega
     case rel => exact ⟨(Go.bits .xor .i64 (wrap64 (Int.tdiv x3_2 2)) 33800), (wrap64 (x5_2 + 1)), (by first | rfl | (simp; done) | (simp [*]; done)), (by first | rfl | (simp; done) | (simp [*]; done)), H', ⟨by have := HK1.out; have := HK2.out; omega⟩, by repeat (first | exact Drawn0.refl _ | apply Drawn0.step)⟩

/-! ### bourneref03_digit: function 99 -/
/-! ### bourneref03_Hex: function 36 -/
def bourneref03_Hex.B5 : List Nat := [0, 0, 0, 6, 14, 30, 62, 0, 0, 384, 896, 1920, 4094, 8190, 16383, 32767]
end Go.Proofs.YtdgejkiackeieaaDoor.PDigestTells
end
section
set_option linter.unusedVariables false
set_option linter.unusedSimpArgs false
-- printed by a program of this session's (xprint.py) out of the translation; Lean checks it
namespace Go.Proofs.YtdgejkiackeieaaDoor.PDigestTells
open Go.RowKit Go.Proofs.YtdgejkiackeieaaDoorW.PrintWords Go.Proofs.YtdgejkiackeieaaDoorW.PrintLast Go.Proofs.YtdgejkiackeieaaDoorW.PrintMore
attribute [local go_sem] max2_int min2_int max_two min_two max_three min_three max_four min_four   -- for this text's walks alone
set_option linter.unusedVariables false
set_option linter.unusedSimpArgs false

/-! ### bournelaw03_DigestTells: function 7 -/
end Go.Proofs.YtdgejkiackeieaaDoor.PDigestTells
end
section
set_option linter.unusedVariables false
set_option linter.unusedSimpArgs false
/- What the reference's Sum, Short, Crc, Hex and Unhex compute, in the words of the program's own specifications. -/
set_option linter.unusedVariables false
set_option linter.unusedSimpArgs false
namespace Go.Proofs.YtdgejkiackeieaaDoor.RefA
open Go.RowKit Go.Proofs.YtdgejkiackeieaaDoor Go.Proofs.YtdgejkiackeieaaDoor.PDigestTells Go.Proofs.YtdgejkiackeieaaDoorW.PrintWords Go.Proofs.YtdgejkiackeieaaDoorW.PrintMore
theorem str_uh (l : List UInt8) : strOfNums (uh l) = ⟨l.toArray⟩ := by
  apply ba_ext
  rw [strOfNums_data, uh, List.map_map]
  show _ = l
  conv => rhs; rw [← List.map_id l]
  exact List.map_congr_left (fun c _ => by simp)
theorem uh_length (l : List UInt8) : (uh l).length = l.length := List.length_map ..
theorem uh_append (a b : List UInt8) : uh (a ++ b) = uh a ++ uh b := List.map_append ..
/-! Sum -/
/-! Short -/
/-! Crc -/
theorem i64_xor_nat (a b : Nat) (ha : a < 65536) (hb : b < 65536) : Go.bits .xor .i64 (a : Int) (b : Int) = ((a ^^^ b : Nat) : Int) := by
  have hx : a ^^^ b < 65536 := Nat.xor_lt_two_pow (n := 16) ha hb
  have e1 : (BitVec.ofInt 64 (a : Int)).toNat = a := ofInt_u64 a (by omega)
  have e2 : (BitVec.ofInt 64 (b : Int)).toNat = b := ofInt_u64 b (by omega)
  show IntKind.i64.wrap (((BitVec.ofInt 64 (a : Int) ^^^ BitVec.ofInt 64 (b : Int)).toNat : Nat) : Int) = _
  rw [BitVec.toNat_xor, e1, e2, IntKind.wrap_i64]
  omega
theorem crc1 (s : ByteArray) (i4 : Int) (d : Nat) : ∀ (k x j : Nat), x < 65536 → j + d = 8 → bourneref03_Crc.l1 (k + d + 1) s x i4 j = bourneref03_Crc.l0 k s (Crc.steps d x : Nat) (wrap64 (i4 + 1)) := by
  induction d with
  | zero =>
    intro k x j hx hj
    rw [bourneref03_Crc.l1, if_neg (by omega)]
    rfl
  | succ d ih =>
    intro k x j hx hj
    have ew : wrap64 ((j : Int) + 1) = ((j + 1 : Nat) : Int) := by unfold wrap64; omega
    have h2 : wrap64 (Int.tdiv (x : Int) 2) = ((x / 2 : Nat) : Int) := by rw [Int.tdiv_eq_ediv_of_nonneg (by omega)]; unfold wrap64; omega
    rw [show k + (d + 1) + 1 = (k + d + 1) + 1 by omega, bourneref03_Crc.l1, if_pos (by omega), Int.tmod_eq_emod_of_nonneg (by omega), ew, h2]
    have hs : Crc.steps (d + 1) x = Crc.steps d (Crc.step x) := rfl
    rw [hs]
    by_cases ho : x % 2 = 1
    · have e : Go.bits .xor .i64 ((x / 2 : Nat) : Int) 33800 = ((Crc.step x : Nat) : Int) := by
        have := i64_xor_nat (x / 2) 33800 (by omega) (by decide)
        rw [show ((33800 : Nat) : Int) = 33800 from rfl] at this
        rw [this, Crc.step, if_pos ho]
      rw [if_pos (by omega), e]
      exact ih k _ (j + 1) (Crc.step_lt hx) (by omega)
    · have e : x / 2 = Crc.step x := by rw [Crc.step, if_neg ho]
      rw [if_neg (by omega), e]
      exact ih k _ (j + 1) (Crc.step_lt hx) (by omega)
theorem crc0 (s : ByteArray) (hs : s.size ≤ 1000000) (d : Nat) : ∀ (x i : Nat), x < 65536 → i + d = s.size → ∃ k, bourneref03_Crc.l0 k s x i = some ((65535 ^^^ Crc.reg x ((nb s).drop i) : Nat) : Int) := by
  induction d with
  | zero =>
    intro x i hx hi
    refine ⟨1, ?_⟩
    have e : (nb s).drop i = [] := by rw [List.drop_eq_nil_iff, nb_length]; omega
    have := i64_xor_nat x 65535 hx (by decide)
    rw [show ((65535 : Nat) : Int) = 65535 from rfl] at this
    rw [bourneref03_Crc.l0, if_neg (by omega), e, this, Nat.xor_comm]
    rfl
  | succ d ih =>
    intro x i hx hi
    have hlt : i < s.size := by omega
    have hg : (nb s)[i]'(by rw [nb_length]; exact hlt) < 256 := nb_lt s _ (List.getElem_mem _)
    have hxx : x ^^^ (nb s)[i]'(by rw [nb_length]; exact hlt) < 65536 := Nat.xor_lt_two_pow (n := 16) hx (by omega)
    obtain ⟨k, hk⟩ := ih (Crc.steps 8 (x ^^^ (nb s)[i]'(by rw [nb_length]; exact hlt))) (i + 1) (Crc.steps_lt 8 hxx) (by omega)
    refine ⟨(k + 8 + 1) + 1, ?_⟩
    rw [bourneref03_Crc.l0, if_pos (by omega), if_pos (by omega), nb_get s i hlt, wrap64_id (x := (((nb s)[i]'(by rw [nb_length]; exact hlt) : Nat) : Int)) (by omega) (by omega), i64_xor_nat x _ hx (by omega)]
    have := crc1 s (i : Int) 8 k (x ^^^ (nb s)[i]'(by rw [nb_length]; exact hlt)) 0 hxx rfl
    rw [show ((0 : Nat) : Int) = 0 from rfl] at this
    have ed : (nb s).drop i = (nb s)[i]'(by rw [nb_length]; exact hlt) :: (nb s).drop (i + 1) := List.drop_eq_getElem_cons (by rw [nb_length]; exact hlt)
    rw [this, show wrap64 ((i : Int) + 1) = ((i + 1 : Nat) : Int) by unfold wrap64; omega, hk, ed]
    rfl
theorem crc_eq (s : ByteArray) (hs : s.size ≤ 1000000) : ∃ k, bourneref03_Crc.f k s = some (crcN (nb s) : Int) := by
  obtain ⟨k, hk⟩ := crc0 s hs s.size 65535 0 (by decide) (by omega)
  exact ⟨k, hk⟩
/-! Hex, Unhex -/
end Go.Proofs.YtdgejkiackeieaaDoor.RefA
end
section
set_option linter.unusedVariables false
set_option linter.unusedSimpArgs false
/- Layer 23: the reference's Crc, Body, Escaped, Encode. -/
set_option linter.unusedVariables false
set_option linter.unusedSimpArgs false
namespace Go.Proofs.YtdgejkiackeieaaDoor.Fr
open Go.RowKit Go.Proofs.YtdgejkiackeieaaDoor Go.Proofs.YtdgejkiackeieaaDoor.Wr Go.Proofs.YtdgejkiackeieaaDoorW.PrintWords Go.Proofs.YtdgejkiackeieaaDoorW.PrintMore Go.Proofs.YtdgejkiackeieaaDoorW.PrintLast
theorem refCrc_any (s : ByteArray) (w : World) (hs : s.size ≤ 1000000) : Calls Tryd.prog 35 #[.string s] w fun e w' => e = .returned (.int .i64 (crcF s.data.toList : Int)) ∧ Drawn0 w w' := by
  obtain ⟨k, hk⟩ := RefA.crc_eq s hs
  exact PDigestTells.bourneref03_Crc.calls k s _ w hk
set_option maxRecDepth 100000 in
theorem refBody_any (s : ByteArray) (w : World) (hs : s.size ≤ 1000000) : Calls Tryd.prog 66 #[.string s] w fun e w' => e = .returned (.string (mkB (bodyB crcF s.data.toList))) ∧ Below w.heap.size w w' := by
  have hlt := crcF_lt s.data.toList
  obtain ⟨R, hR⟩ : ∃ R, mkB (bodyB crcF s.data.toList) = R := ⟨_, rfl⟩
  rw [hR]
  have HR := Lib.hid hR
  obtain ⟨n, hn⟩ : ∃ n, crcF s.data.toList = n := ⟨_, rfl⟩
  have HN := Lib.hid hn
  rw [hn] at hlt
  clear hR hn
  go_enter Tryd.func66, Tryd.ntmps66
  go_wp2_with fail
  refine (refCrc_any s w hs).mono ?_
  rw [HN.out]
  rintro e w1 ⟨rfl, b1⟩
  have B1 := Lib.hid b1.below; clear b1
  have hn0 : (0 : Int) ≤ (n : Int) := by omega
  go_wp2_with fail
  have hcv := string_of_reads (P := Tryd.prog) (src := 30) (dst := 9) (c := 2) Tryd.underlying30 Tryd.underlying5 Tryd.underlying9 (bytes_two w1 ((n : Int) % 256) ((n : Int) / 256))
  obtain ⟨C, hC⟩ : ∃ C, strOfNums [(n : Int) % 256, (n : Int) / 256] = C := ⟨_, rfl⟩
  rw [hC] at hcv
  have hCs : C.size = 2 := by rw [← hC]; exact size_nums _
  have hsum : s ++ C = R := by
    rw [← HR.out, ← hC]
    have e : strOfNums [(n : Int) % 256, (n : Int) / 256] = mkB (crcB crcF s.data.toList) := by
      rw [← str_uh]
      congr 1
      unfold crcB uh
      rw [HN.out]
      simp only [List.map_cons, List.map_nil, UInt8.toNat_ofNat', Nat.reducePow]
      congr 1
      · omega
      · congr 1; omega
    rw [e]
    unfold bodyB
    rw [← mkB_append]
  have hz : (s.size : Int) + (C.size : Int) ≤ 9223372036854775807 := by omega
  have HS := Lib.hid hsum
  have HB := Lib.hid (B1.out.trans (((Below.refl _ w1).alloc (Nat.le_refl _) (Obj.cells #[Value.int .u8 ((n : Int) % 256), Value.int .u8 ((n : Int) / 256)] 5)).mono B1.out.size))
  clear hsum hC hCs HN
  rw [hcv]
  clear hcv
  go_wp2
  go_ret
  exact ⟨ret_s' HS.out, HB.out⟩
theorem info5 : (Tryd.prog.info? 5).map (fun i => (i.zero, i.size, i.bytes)) = some (some (.int .u8 0), 1, 1) := by kernel_rfl
theorem escB_take (l : List UInt8) (k : Nat) (h : k < l.length) : escB (l.take (k + 1)) = escB (l.take k) ++ (if l[k] = 125 then [125, 93] else if l[k] = 126 then [125, 94] else [l[k]]) := by
  rw [List.take_succ_eq_append_getElem h, escB_append]
  congr 1
  rw [escB_cons, escB_nil, List.append_nil]
theorem cells_two (w : World) (u v : Value) (t : TypeId) : ∀ j x, ([u, v] : List Value)[j]? = some x → (w.alloc (.cells #[u, v] t)).cell? ((⟨w.heap.size, 0, none⟩ : Addr).add j) = some x := by
  intro j x hj
  have hb := heap_alloc_new w (Obj.cells #[u, v] t)
  rw [add_plain]
  match j, hj with
  | 0, hj => rw [blk_cell hb 0]; exact hj
  | 1, hj => rw [blk_cell hb 1]; exact hj
/-- The escaped bytes so far, in a row of the call's own. -/
structure Es (w0 w : World) (v : Value) (X : List Int) : Prop where
  own : w.ownsRow w0.heap.size 5 1 v X.length (nums .u8 X)
  below : Below w0.heap.size w0 w
theorem nums_append (k : IntKind) (a b : List Int) : nums k (a ++ b) = nums k a ++ nums k b := List.map_append ..
theorem Es.grown {w0 w w' : World} {v v' : Value} {X : List Int} {o : Obj} {m : Nat} {Y : List Int} (h : Es w0 w v X) (hl : (X ++ Y).length = X.length + m) (hown : w'.ownsRow w0.heap.size 5 1 v' (X.length + m) (nums .u8 X ++ nums .u8 Y)) (hg : (w.alloc o).grownBy w' v.ownBlock) : Es w0 w' v' (X ++ Y) :=
  ⟨by rw [nums_append, hl]; exact hown, (h.below.alloc h.below.size _).grown hg (by have := h.below.size; simp; omega) (fun k e => own_base h.own k e)⟩
set_option maxHeartbeats 4000000 in
set_option maxRecDepth 100000 in
theorem refEscaped_any (s : ByteArray) (w : World) (hs : s.size ≤ 1000000) : Calls Tryd.prog 67 #[.string s] w fun e w' => e = .returned (.string (mkB (escB s.data.toList))) ∧ Below w.heap.size w w' := by
  obtain ⟨i0, hi, hz0, hz1, hz2⟩ := info_parts info5
  go_enter Tryd.func67, Tryd.ntmps67
  go_wp2
  go_loopw [3, 4] (fun v3 v4 wr => ∃ (k : Nat) (vv : Value), vv = v3 ∧ k ≤ s.size ∧ v4 = .int .i64 k ∧ Hid (Es w wr vv (uh (escB (s.data.toList.take k))))) (fun _ v4 _ => s.size - (intOf v4).toNat)
  case atStart => exact ⟨0, _, rfl, by omega, rfl, Lib.hid (by rw [List.take_zero]; exact ⟨World.ownsRow_nil _ _ _ _, Below.refl _ _⟩)⟩
  case round =>
    obtain ⟨k, v3, rfl, hk, rfl, hE⟩ := hrel
    have hlen : (uh (escB (s.data.toList.take k))).length ≤ 2 * k := by
      rw [uh_length]
      have := (escB_length (s.data.toList.take k)).2
      rw [List.length_take] at this; omega
    obtain ⟨X, hX⟩ : ∃ X, uh (escB (s.data.toList.take k)) = X := ⟨_, rfl⟩
    rw [hX] at hE hlen
    have HX := Lib.hid hX
    clear hX
    have hown := hE.out.own
    have hsz := hE.out.below.size
    by_cases hlt : k < s.size
    · have hkl : k < s.data.toList.length := by rw [len_size]; exact hlt
      have hst := escB_take s.data.toList k hkl
      have hby := byte_at s _ rfl k hlt
      obtain ⟨c, hc⟩ : ∃ c, s.data.toList[k] = c := ⟨_, rfl⟩
      rw [hc] at hst hby
      have HST := Lib.hid hst
      clear hst hc
      by_cases h5 : c = 125
      · have h2 : uh (escB (s.data.toList.take (k + 1))) = X ++ [125, 93] := by rw [HST.out, uh_append, HX.out, h5]; rfl
        have H2 := Lib.hid h2
        subst h5
        clear h2 HST
        go_wp2_with (at_builtin; refine wpList_append_own _ rfl _ _ 30 rfl w.heap.size 5 i0 (.int .u8 0) 1 1 Tryd.underlying30 hi hz0 hz1 hz2 rfl (by decide) _ _ _ rfl (hown.alloc _) ⟨wr.heap.size, 0, none⟩ 2 2 [.int .u8 125, .int .u8 93] rfl rfl ?c1 (by simp [Value.oneCell']) ?c3 (by omega) ?c5 ?_)
        case c1 => exact cells_two wr _ _ 5
        case c3 => unfold maxLen; omega
        case c5 => simp; omega
        intro v' w6 hown' hgrow _
        have hE' := hE.out.grown (Y := [125, 93]) (by simp) hown' hgrow
        rw [← H2.out] at hE'
        have HE' := Lib.hid hE'
        clear hown' hgrow hown hE'
        go_wp2
        go_roundw
        case rel => exact ⟨k + 1, v', rfl, by omega, by go_num, HE'⟩
        case measure => simp [intOf]; omega
      · by_cases h6 : c = 126
        · have h2 : uh (escB (s.data.toList.take (k + 1))) = X ++ [125, 94] := by rw [HST.out, uh_append, HX.out, h6]; rfl
          have H2 := Lib.hid h2
          subst h6
          clear h2 HST
          go_wp2_with (at_builtin; refine wpList_append_own _ rfl _ _ 30 rfl w.heap.size 5 i0 (.int .u8 0) 1 1 Tryd.underlying30 hi hz0 hz1 hz2 rfl (by decide) _ _ _ rfl (hown.alloc _) ⟨wr.heap.size, 0, none⟩ 2 2 [.int .u8 125, .int .u8 94] rfl rfl ?c1 (by simp [Value.oneCell']) ?c3 (by omega) ?c5 ?_)
          case c1 => exact cells_two wr _ _ 5
          case c3 => unfold maxLen; omega
          case c5 => simp; omega
          intro v' w6 hown' hgrow _
          have hE' := hE.out.grown (Y := [125, 94]) (by simp) hown' hgrow
          rw [← H2.out] at hE'
          have HE' := Lib.hid hE'
          clear hown' hgrow hown hE'
          go_wp2
          go_roundw
          case rel => exact ⟨k + 1, v', rfl, by omega, by go_num, HE'⟩
          case measure => simp [intOf]; omega
        · have h2 : uh (escB (s.data.toList.take (k + 1))) = X ++ [(c.toNat : Int)] := by rw [HST.out, uh_append, HX.out, if_neg h5, if_neg h6]; rfl
          have H2 := Lib.hid h2
          have hn5 : ((c.toNat : Int) == 125) = false := by
            rw [beq_eq_false_iff_ne]; intro e; apply h5; apply UInt8.toNat_inj.1; exact Int.ofNat.inj e
          have hn6 : ((c.toNat : Int) == 126) = false := by
            rw [beq_eq_false_iff_ne]; intro e; apply h6; apply UInt8.toNat_inj.1; exact Int.ofNat.inj e
          clear h2 HST h5 h6
          go_wp2_with (at_builtin; refine wpList_append_own _ rfl _ _ 30 rfl w.heap.size 5 i0 (.int .u8 0) 1 1 Tryd.underlying30 hi hz0 hz1 hz2 rfl (by decide) _ _ _ rfl (hown.alloc _) ⟨wr.heap.size, 0, none⟩ 1 1 [.int .u8 (c.toNat : Int)] rfl rfl ?c1 (by simp [Value.oneCell']) ?c3 (by omega) ?c5 ?_)
          case c1 =>
            intro j x hj
            have hb := heap_alloc_new wr (Obj.cells #[Value.int .u8 (c.toNat : Int)] 5)
            rw [add_plain, blk_cell hb j]
            simpa using hj
          case c3 => unfold maxLen; omega
          case c5 => simp; omega
          intro v' w6 hown' hgrow _
          have hE' := hE.out.grown (Y := [(c.toNat : Int)]) (by simp) hown' hgrow
          rw [← H2.out] at hE'
          have HE' := Lib.hid hE'
          clear hown' hgrow hown hE'
          go_wp2
          go_roundw
          case rel => exact ⟨k + 1, v', rfl, by omega, by go_num, HE'⟩
          case measure => simp [intOf]; omega
    · obtain rfl : k = s.size := by omega
      have hX2 : strOfNums X = mkB (escB s.data.toList) := by
        rw [← HX.out, str_uh, List.take_of_length_le (by rw [len_size]; exact Nat.le_refl _)]
      obtain ⟨A9, c9, e9⟩ : ∃ A c, v3 = .slice A X.length c := by
        rcases hown.2 with ⟨h, h'⟩ | ⟨g, cap, cur, h, _⟩
        · exact ⟨none, 0, by rw [h, h']⟩
        · exact ⟨_, cap, h⟩
      subst e9
      have hcv := string_of_reads (P := Tryd.prog) (src := 30) (dst := 9) (c := c9) Tryd.underlying30 Tryd.underlying5 Tryd.underlying9 (own_reads' hown)
      rw [hX2] at hcv
      clear hown
      go_wp2
      go_ret
      exact ⟨rfl, hE.out.below⟩
end Go.Proofs.YtdgejkiackeieaaDoor.Fr
end
section
set_option linter.unusedVariables false
set_option linter.unusedSimpArgs false
/- Layer 23: the reference's Encode and Payload. -/
set_option linter.unusedVariables false
set_option linter.unusedSimpArgs false
namespace Go.Proofs.YtdgejkiackeieaaDoor.Fr
open Go.RowKit Go.Proofs.YtdgejkiackeieaaDoor Go.Proofs.YtdgejkiackeieaaDoor.Wr Go.Proofs.YtdgejkiackeieaaDoorW.PrintWords Go.Proofs.YtdgejkiackeieaaDoorW.PrintMore Go.Proofs.YtdgejkiackeieaaDoorW.PrintLast
/-- The frame of a payload, as the reference writes it. -/
theorem refEncode_any (s : ByteArray) (w : World) (hs : s.size ≤ 400000) : Calls Tryd.prog 64 #[.string s] w fun e w' => e = .returned (.string (mkB (encB crcF s.data.toList))) ∧ Below w.heap.size w w' := by
  obtain ⟨Q, hQ⟩ : ∃ Q, mkB (bodyB crcF s.data.toList) = Q := ⟨_, rfl⟩
  have hQz : Q.size ≤ 400002 := by rw [← hQ, mkB_size, bodyB_length, len_size]; omega
  obtain ⟨F, hF⟩ : ∃ F, mkB (frB crcF s.data.toList) = F := ⟨_, rfl⟩
  have hF2 : mkB (escB Q.data.toList) = F := by rw [← hQ]; exact hF
  have HQ := Lib.hid hQ; have HF := Lib.hid hF2
  by_cases hl : (frB crcF s.data.toList).length ≤ 2048
  · have hR : (⟨#[126]⟩ : ByteArray) ++ F ++ (⟨#[126]⟩ : ByteArray) = mkB (encB crcF s.data.toList) := by
      rw [encB_pos crcF hl, ← hF]; show mkB [126] ++ mkB (frB crcF s.data.toList) ++ mkB [126] = _; rw [mkB_append, mkB_append]; rfl
    have hFz : ¬ (2048 : Int) < (F.size : Int) := by rw [← hF, mkB_size]; omega
    obtain ⟨R, hR'⟩ : ∃ R, mkB (encB crcF s.data.toList) = R := ⟨_, rfl⟩
    rw [hR'] at hR ⊢
    have HR := Lib.hid hR
    clear hR hR' hF hF2 hQ hl
    go_enter Tryd.func64, Tryd.ntmps64
    go_wp2_with fail
    refine (refBody_any s w (by omega)).mono ?_
    rw [HQ.out]
    rintro e w1 ⟨rfl, b1⟩
    have B1 := Lib.hid b1; clear b1
    go_wp2_with fail
    refine (refEscaped_any Q w1 (by omega)).mono ?_
    rw [HF.out]
    rintro e w2 ⟨rfl, b2⟩
    have B2 := Lib.hid (B1.out.trans (b2.mono B1.out.size)); clear b2
    go_wp2
    go_ret
    exact ⟨ret_s' HR.out, B2.out⟩
  · have hFz : (2048 : Int) < (F.size : Int) := by rw [← hF, mkB_size]; omega
    rw [encB_neg crcF hl]
    clear hF hF2 hQ hl
    go_enter Tryd.func64, Tryd.ntmps64
    go_wp2_with fail
    refine (refBody_any s w (by omega)).mono ?_
    rw [HQ.out]
    rintro e w1 ⟨rfl, b1⟩
    have B1 := Lib.hid b1; clear b1
    go_wp2_with fail
    refine (refEscaped_any Q w1 (by omega)).mono ?_
    rw [HF.out]
    rintro e w2 ⟨rfl, b2⟩
    have B2 := Lib.hid (B1.out.trans (b2.mono B1.out.size)); clear b2
    go_wp2
    go_ret
    exact ⟨rfl, B2.out⟩
/-- The escapes taken back, as the reference does it. -/
def unR : List UInt8 → Option (List UInt8)
  | [] => some []
  | c :: r =>
    if c = 125 then
      match r with
      | [] => none
      | d :: r' => if d = 93 then (unR r').map (125 :: ·) else if d = 94 then (unR r').map (126 :: ·) else none
    else (unR r).map (c :: ·)
theorem unR_nil : unR [] = some [] := by rw [unR]
theorem unR_plain {c : UInt8} (h : c ≠ 125) (r : List UInt8) : unR (c :: r) = (unR r).map (c :: ·) := by rw [unR.eq_def]; simp [h]
theorem unR_end : unR [125] = none := by rw [unR.eq_def]; simp
theorem unR_five (r : List UInt8) : unR (125 :: 93 :: r) = (unR r).map (125 :: ·) := by rw [unR.eq_def]; simp
theorem unR_six (r : List UInt8) : unR (125 :: 94 :: r) = (unR r).map (126 :: ·) := by rw [unR.eq_def]; simp
theorem unR_bad {d : UInt8} (h1 : d ≠ 93) (h2 : d ≠ 94) (r : List UInt8) : unR (125 :: d :: r) = none := by rw [unR.eq_def]; simp [h1, h2]
theorem unR_esc (l : List UInt8) : unR (escB l) = some l := by
  induction l with
  | nil => exact unR_nil
  | cons c l ih =>
    rw [escB_cons]
    by_cases h5 : c = 125
    · subst h5; rw [if_pos rfl]; show unR (125 :: 93 :: escB l) = _; rw [unR_five, ih]; rfl
    · rw [if_neg h5]
      by_cases h6 : c = 126
      · subst h6; rw [if_pos rfl]; show unR (125 :: 94 :: escB l) = _; rw [unR_six, ih]; rfl
      · rw [if_neg h6]; show unR (c :: escB l) = _; rw [unR_plain h5, ih]; rfl
theorem unR_only : ∀ (n : Nat) (s b : List UInt8), s.length ≤ n → 126 ∉ s → unR s = some b → escB b = s := by
  intro n
  induction n with
  | zero =>
    intro s b hs _ h
    obtain rfl := List.length_eq_zero_iff.1 (Nat.le_zero.1 hs)
    rw [unR_nil] at h; injection h with h; rw [← h]; rfl
  | succ n ih =>
    intro s b hs hf h
    cases s with
    | nil => rw [unR_nil] at h; injection h with h; rw [← h]; rfl
    | cons c r =>
      have hf1 : 126 ∉ r := fun e => hf (List.mem_cons_of_mem _ e)
      by_cases h5 : c = 125
      · subst h5
        cases r with
        | nil => rw [unR_end] at h; cases h
        | cons d r =>
          have hf2 : 126 ∉ r := fun e => hf1 (List.mem_cons_of_mem _ e)
          have hl : r.length ≤ n := by simp at hs; omega
          by_cases h1 : d = 93
          · subst h1
            rw [unR_five] at h
            obtain ⟨b', hb, rfl⟩ := Option.map_eq_some_iff.1 h
            rw [escB_cons, if_pos rfl, ih r b' hl hf2 hb]; rfl
          · by_cases h2 : d = 94
            · subst h2
              rw [unR_six] at h
              obtain ⟨b', hb, rfl⟩ := Option.map_eq_some_iff.1 h
              rw [escB_cons, if_neg (by decide), if_pos rfl, ih r b' hl hf2 hb]; rfl
            · rw [unR_bad h1 h2] at h; cases h
      · have h6 : c ≠ 126 := fun e => hf (by rw [e]; exact List.mem_cons_self)
        rw [unR_plain h5] at h
        obtain ⟨b', hb, rfl⟩ := Option.map_eq_some_iff.1 h
        rw [escB_cons, if_neg h5, if_neg h6, ih r b' (by simp at hs; omega) hf1 hb]; rfl
/-- What a stretch contains, told by the reference's way. -/
theorem payR_none {s : List UInt8} (h : unR s = none) : payB crcF s = none := by
  cases hp : payB crcF s with
  | none => rfl
  | some p =>
    have h1 := ((payB_some crcF).1 hp).1
    rw [h1] at h
    unfold frB at h
    rw [unR_esc] at h; cases h
theorem payR_short {s X : List UInt8} (h : unR s = some X) (h2 : X.length < 2) : payB crcF s = none := by
  cases hp : payB crcF s with
  | none => rfl
  | some p =>
    have h1 := ((payB_some crcF).1 hp).1
    rw [h1] at h
    unfold frB at h
    rw [unR_esc] at h
    injection h with h
    rw [← h, bodyB_length] at h2; omega
theorem payR_not {s X : List UInt8} (h : unR s = some X) (h2 : bodyB crcF (X.take (X.length - 2)) ≠ X) : payB crcF s = none := by
  cases hp : payB crcF s with
  | none => rfl
  | some p =>
    have h1 := ((payB_some crcF).1 hp).1
    rw [h1] at h
    unfold frB at h
    rw [unR_esc] at h
    injection h with h
    exfalso; apply h2; rw [← h, bodyB_take]
theorem payR_some {s X : List UInt8} (hf : 126 ∉ s) (h : unR s = some X) (hl : s.length ≤ 2048) (h2 : bodyB crcF (X.take (X.length - 2)) = X) : payB crcF s = some (X.take (X.length - 2)) := by
  refine (payB_some crcF).2 ⟨?_, hl⟩
  unfold frB
  rw [h2, unR_only _ s X (Nat.le_refl _) hf h]
end Go.Proofs.YtdgejkiackeieaaDoor.Fr
end
section
set_option linter.unusedVariables false
set_option linter.unusedSimpArgs false
/- Layer 23: the reference's Payload. -/
set_option linter.unusedVariables false
set_option linter.unusedSimpArgs false
namespace Go.Proofs.YtdgejkiackeieaaDoor.Fr
open Go.RowKit Go.Proofs.YtdgejkiackeieaaDoor Go.Proofs.YtdgejkiackeieaaDoor.Wr Go.Proofs.YtdgejkiackeieaaDoorW.PrintWords Go.Proofs.YtdgejkiackeieaaDoorW.PrintMore Go.Proofs.YtdgejkiackeieaaDoorW.PrintLast
theorem map_app (o : Option (List UInt8)) (X : List UInt8) (c : UInt8) : (o.map (c :: ·)).map (X ++ ·) = o.map ((X ++ [c]) ++ ·) := by cases o <;> simp
theorem uh_take (X : List UInt8) (j : Nat) : (uh X).take j = uh (X.take j) := by unfold uh; rw [List.map_take]
theorem Es.more {w0 w w' : World} {v : Value} {X : List Int} (h : Es w0 w v X) (hb : Below w.heap.size w w') : Es w0 w' v X :=
  ⟨own_move h.own (fun k hk => by obtain ⟨cells, hc⟩ := own_typed h.own k hk; exact hb.block k (blk_lt hc)), h.below.trans (hb.mono h.below.size)⟩
theorem Es.whole {w0 w : World} {A : Option Addr} {n c : Nat} {X : List UInt8} (h : Es w0 w (.slice A n c) (uh X)) (hn : n = X.length) : (convert 30 9 (.slice A n c)).run Tryd.prog w = .ok (.string (mkB X)) w := by
  subst hn
  have ho := h.own
  rw [uh_length] at ho
  rw [← str_uh]
  exact string_of_reads (P := Tryd.prog) (src := 30) (dst := 9) (c := c) Tryd.underlying30 Tryd.underlying5 Tryd.underlying9 (own_reads' ho)
theorem Es.part {w0 w : World} {A : Option Addr} {n c : Nat} {X : List UInt8} (h : Es w0 w (.slice A n c) (uh X)) (hn : n = X.length) (j : Nat) (hj : j ≤ n) : (convert 30 9 (.slice A j c)).run Tryd.prog w = .ok (.string (mkB (X.take j))) w := by
  subst hn
  have ho := h.own
  rw [uh_length] at ho
  have hr := (own_reads' ho).take_ j hj
  rw [uh_take] at hr
  rw [← str_uh]
  exact string_of_reads (P := Tryd.prog) (src := 30) (dst := 9) (c := c) Tryd.underlying30 Tryd.underlying5 Tryd.underlying9 hr
set_option maxHeartbeats 8000000 in
set_option maxRecDepth 100000 in
theorem refPayload_any (s : ByteArray) (w : World) (hs : s.size ≤ 1000000) (hf : 126 ∉ s.data.toList) : Calls Tryd.prog 114 #[.string s] w fun e w' => e = .returned (payV (payB crcF s.data.toList)) ∧ Below w.heap.size w w' := by
  obtain ⟨i0, hi, hz0, hz1, hz2⟩ := info_parts info5
  obtain ⟨V, hV⟩ : ∃ V, payV (payB crcF s.data.toList) = V := ⟨_, rfl⟩
  rw [hV]
  have HF := Lib.hid hf; have HV := Lib.hid hV
  clear hf hV
  go_enter Tryd.func114, Tryd.ntmps114
  go_wp2
  go_loopw [4, 5] (fun v4 v5 wr => ∃ (k : Nat) (vv : Value) (X : List UInt8), vv = v4 ∧ k ≤ s.size ∧ X.length ≤ k ∧ v5 = .int .i64 k ∧ Hid (Es w wr vv (uh X)) ∧ Hid (unR s.data.toList = (unR (s.data.toList.drop k)).map (X ++ ·))) (fun _ v5 _ => s.size - (intOf v5).toNat)
  case atStart => exact ⟨0, _, [], rfl, by omega, by simp, rfl, Lib.hid ⟨World.ownsRow_nil _ _ _ _, Below.refl _ _⟩, Lib.hid (by rw [List.drop_zero]; cases unR s.data.toList <;> rfl)⟩
  case round =>
    obtain ⟨k, v4, X, rfl, hk, hXl, rfl, hE, hU⟩ := hrel
    have hlen : (uh X).length = X.length := uh_length X
    have hown := hE.out.own
    have hsz := hE.out.below.size
    rw [hlen] at hown
    by_cases hlt : k < s.size
    · have hkl : k < s.data.toList.length := by rw [len_size]; exact hlt
      have hdr := List.drop_eq_getElem_cons hkl
      have hby := byte_at s _ rfl k hlt
      obtain ⟨c, hc⟩ : ∃ c, s.data.toList[k] = c := ⟨_, rfl⟩
      rw [hc] at hdr hby
      have HDR := Lib.hid hdr
      clear hdr hc
      by_cases h5 : c = 125
      · subst h5
        by_cases hend : k + 1 = s.size
        · have hn : unR s.data.toList = none := by
            rw [hU.out, HDR.out, List.drop_of_length_le (by rw [len_size]; omega), unR_end]; rfl
          have hq : ((k : Int) + 1 == (s.size : Int)) = true := by rw [beq_iff_eq]; omega
          have HVN : Hid (payV none = V) := Lib.hid (by rw [← HV.out, payR_none hn])
          clear hn hend
          go_wp2
          go_ret2
          exact ⟨congrArg Ending.returned HVN.out, hE.out.below⟩
        · have hq : ((k : Int) + 1 == (s.size : Int)) = false := by rw [beq_eq_false_iff_ne]; omega
          have hlt2 : k + 1 < s.size := by omega
          have hkl2 : k + 1 < s.data.toList.length := by rw [len_size]; exact hlt2
          have hdr2 := List.drop_eq_getElem_cons hkl2
          have hby2 := byte_at s _ rfl (k + 1) hlt2
          obtain ⟨d, hd⟩ : ∃ d, s.data.toList[k + 1] = d := ⟨_, rfl⟩
          rw [hd] at hdr2 hby2
          have hi2 : (k : Int) + 1 < (s.size : Int) := by omega
          have HDR2 := Lib.hid hdr2
          clear hdr2 hd hend
          by_cases h3 : d = 93
          · subst h3
            have HU2 : Hid (unR s.data.toList = (unR (s.data.toList.drop (k + 2))).map ((X ++ [125]) ++ ·)) := Lib.hid (by rw [hU.out, HDR.out, HDR2.out, unR_five, map_app])
            go_wp2_with (at_builtin; refine wpList_append_own _ rfl _ _ 30 rfl w.heap.size 5 i0 (.int .u8 0) 1 1 Tryd.underlying30 hi hz0 hz1 hz2 rfl (by decide) _ _ _ rfl (hown.alloc _) ⟨wr.heap.size, 0, none⟩ 1 1 [.int .u8 125] rfl rfl ?c1 (by simp [Value.oneCell']) ?c3 (by omega) ?c5 ?_)
            case c1 =>
              intro j x hj
              have hb := heap_alloc_new wr (Obj.cells #[Value.int .u8 125] 5)
              rw [add_plain, blk_cell hb j]
              simpa using hj
            case c3 => unfold maxLen; omega
            case c5 => simp; omega
            intro v' w6 hown' hgrow _
            have hE' := hE.out.grown (m := 1) (Y := [125]) (by simp) (by rw [hlen]; exact hown') hgrow
            rw [show uh X ++ [125] = uh (X ++ [125]) from by rw [uh_append]; rfl] at hE'
            have HE' := Lib.hid hE'
            clear hown' hgrow hown hE'
            go_wp2
            go_roundw
            case rel => exact ⟨k + 2, v', X ++ [125], rfl, by omega, by rw [List.length_append]; simp; omega, by go_num, HE', HU2⟩
            case measure => simp [intOf]; omega
          · by_cases h4 : d = 94
            · subst h4
              have HU2 : Hid (unR s.data.toList = (unR (s.data.toList.drop (k + 2))).map ((X ++ [126]) ++ ·)) := Lib.hid (by rw [hU.out, HDR.out, HDR2.out, unR_six, map_app])
              clear h3
              go_wp2_with (at_builtin; refine wpList_append_own _ rfl _ _ 30 rfl w.heap.size 5 i0 (.int .u8 0) 1 1 Tryd.underlying30 hi hz0 hz1 hz2 rfl (by decide) _ _ _ rfl (hown.alloc _) ⟨wr.heap.size, 0, none⟩ 1 1 [.int .u8 126] rfl rfl ?c1 (by simp [Value.oneCell']) ?c3 (by omega) ?c5 ?_)
              case c1 =>
                intro j x hj
                have hb := heap_alloc_new wr (Obj.cells #[Value.int .u8 126] 5)
                rw [add_plain, blk_cell hb j]
                simpa using hj
              case c3 => unfold maxLen; omega
              case c5 => simp; omega
              intro v' w6 hown' hgrow _
              have hE' := hE.out.grown (m := 1) (Y := [126]) (by simp) (by rw [hlen]; exact hown') hgrow
              rw [show uh X ++ [126] = uh (X ++ [126]) from by rw [uh_append]; rfl] at hE'
              have HE' := Lib.hid hE'
              clear hown' hgrow hown hE'
              go_wp2
              go_roundw
              case rel => exact ⟨k + 2, v', X ++ [126], rfl, by omega, by rw [List.length_append]; simp; omega, by go_num, HE', HU2⟩
              case measure => simp [intOf]; omega
            · have hn : unR s.data.toList = none := by rw [hU.out, HDR.out, HDR2.out, unR_bad h3 h4]; rfl
              have hn3 : ((d.toNat : Int) == 93) = false := by
                rw [beq_eq_false_iff_ne]; intro e; apply h3; apply UInt8.toNat_inj.1; exact Int.ofNat.inj e
              have hn4 : ((d.toNat : Int) == 94) = false := by
                rw [beq_eq_false_iff_ne]; intro e; apply h4; apply UInt8.toNat_inj.1; exact Int.ofNat.inj e
              have HVN : Hid (payV none = V) := Lib.hid (by rw [← HV.out, payR_none hn])
              have hn3b : ((d.toNat : Int) != 93) = true := by rw [bne, hn3]; rfl
              have hn4b : ((d.toNat : Int) != 94) = true := by rw [bne, hn4]; rfl
              clear hn h3 h4
              go_wp2
              go_ret2
              exact ⟨congrArg Ending.returned HVN.out, hE.out.below⟩
      · have hn5 : ((c.toNat : Int) == 125) = false := by
          rw [beq_eq_false_iff_ne]; intro e; apply h5; apply UInt8.toNat_inj.1; exact Int.ofNat.inj e
        have HU2 : Hid (unR s.data.toList = (unR (s.data.toList.drop (k + 1))).map ((X ++ [c]) ++ ·)) := Lib.hid (by rw [hU.out, HDR.out, unR_plain h5, map_app])
        clear h5
        go_wp2_with (at_builtin; refine wpList_append_own _ rfl _ _ 30 rfl w.heap.size 5 i0 (.int .u8 0) 1 1 Tryd.underlying30 hi hz0 hz1 hz2 rfl (by decide) _ _ _ rfl (hown.alloc _) ⟨wr.heap.size, 0, none⟩ 1 1 [.int .u8 (c.toNat : Int)] rfl rfl ?c1 (by simp [Value.oneCell']) ?c3 (by omega) ?c5 ?_)
        case c1 =>
          intro j x hj
          have hb := heap_alloc_new wr (Obj.cells #[Value.int .u8 (c.toNat : Int)] 5)
          rw [add_plain, blk_cell hb j]
          simpa using hj
        case c3 => unfold maxLen; omega
        case c5 => simp; omega
        intro v' w6 hown' hgrow _
        have hE' := hE.out.grown (m := 1) (Y := [(c.toNat : Int)]) (by simp) (by rw [hlen]; exact hown') hgrow
        rw [show uh X ++ [(c.toNat : Int)] = uh (X ++ [c]) from by rw [uh_append]; rfl] at hE'
        have HE' := Lib.hid hE'
        clear hown' hgrow hown hE'
        go_wp2
        go_roundw
        case rel => exact ⟨k + 1, v', X ++ [c], rfl, by omega, by rw [List.length_append]; simp; omega, by go_num, HE', HU2⟩
        case measure => simp [intOf]; omega
    · obtain rfl : k = s.size := by omega
      have hUX : unR s.data.toList = some X := by
        rw [hU.out, List.drop_of_length_le (by rw [len_size]; exact Nat.le_refl _), unR_nil]; simp
      have HUX := Lib.hid hUX
      obtain ⟨A9, c9, e9, hc9⟩ : ∃ A c, v4 = .slice A X.length c ∧ X.length ≤ c := by
        rcases hown.2 with ⟨h, h'⟩ | ⟨g, cap, cur, h, _, _, h2, _⟩
        · exact ⟨none, 0, by rw [h, h'], by omega⟩
        · exact ⟨_, cap, h, h2⟩
      subst e9
      clear hU hUX hown hlt
      by_cases hbig : 2048 < s.size
      · have hb : (2048 : Int) < (s.size : Int) := by omega
        have HVN : Hid (payV none = V) := Lib.hid (by rw [← HV.out, payB_long crcF (by rw [len_size]; exact hbig)])
        clear hbig
        go_wp2_with fail
        go_quiet (fail)
        go_wp2
        go_ret2
        exact ⟨congrArg Ending.returned HVN.out, pw_below_drewN hE.out.below _⟩
      · have hb : ¬ (2048 : Int) < (s.size : Int) := by omega
        by_cases hm : X.length < 2
        · have hm2 : (X.length : Int) < 2 := by omega
          have hm4 : decide ((X.length : Int) < 2) = true := decide_eq_true hm2
          have hm3 : decide ((X.length : Int) - 2 < 0) = true := decide_eq_true (by omega)
          have hbd : decide ((2048 : Int) < (s.size : Int)) = false := decide_eq_false hb
          have HVN : Hid (payV none = V) := Lib.hid (by rw [← HV.out, payR_short HUX.out hm])
          clear hm hbig
          go_wp2_with fail
          go_quiet (fail)
          go_wp2
          go_ret2
          exact ⟨congrArg Ending.returned HVN.out, pw_below_drewN hE.out.below _⟩
        · obtain ⟨j, hj⟩ : ∃ j, X.length = j + 2 := ⟨X.length - 2, by omega⟩
          have HJ := Lib.hid hj
          rw [hj] at hE hc9
          rw [hj]
          obtain ⟨P, hP⟩ : ∃ P, mkB (X.take j) = P := ⟨_, rfl⟩
          obtain ⟨T, hT⟩ : ∃ T, mkB X = T := ⟨_, rfl⟩
          have hPl : P.data.toList = X.take j := by rw [← hP]
          have hTl : T.data.toList = X := by rw [← hT]
          have hPz : P.size ≤ 1000000 := by rw [← hP, mkB_size, List.length_take]; omega
          obtain ⟨Y, hY⟩ : ∃ Y, mkB (bodyB crcF P.data.toList) = Y := ⟨_, rfl⟩
          have hYl : Y.data.toList = bodyB crcF (X.take j) := by rw [← hY, ← hPl]
          have HY := Lib.hid hY; have HP := Lib.hid hP; have HT := Lib.hid hT
          have j1 : (j : Int) ≤ (c9 : Int) := by omega
          have hbd : decide ((2048 : Int) < (s.size : Int)) = false := decide_eq_false hb
          have hjz : (j : Int) ≤ 1000000 := by omega
          have hjd : decide ((j : Int) < 0) = false := decide_eq_false (by omega)
          have hjd2 : decide ((j : Int) + 2 - 2 < 0) = false := decide_eq_false (by omega)
          have j2 : j ≤ c9 := by omega
          by_cases h4 : bodyB crcF (X.take j) = X
          · have i4 : (Y.toList == T.toList) = true := eq_l (by rw [hYl, hTl]; exact h4)
            have i4' : Y.toList = T.toList := by simpa using i4
            have HVN : Hid (payV (some (X.take j)) = V) := Lib.hid (by
              rw [← HV.out, payR_some HF.out HUX.out (by rw [len_size]; omega) (by rw [HJ.out]; exact h4), HJ.out]; rfl)
            have HVP : Hid (Value.tuple #[.string P, .bool true] = V) := Lib.hid (by rw [← HVN.out, ← HP.out]; rfl)
            clear h4 hP hT hPl hTl hY hYl hbig hm hj hlen hXl
            go_wp2_with fail
            refine start_ (n := 17) (S := fun w' => Es w w' (.slice A9 (j + 2) c9) (uh X)) (ds := []) #[false, false, false, false, false, false, false, false, false, false, false, false, false, false, false, false, false] (by kernel_rfl) rfl rfl (hE.out.more (below_drew (Below.refl _ _))) (fun hHeld => ?_)
            refine pure_ (i := 0) (N := some 48) (v := ?_) (a' := ?_) #[true, false, false, false, false, false, false, false, false, false, false, false, false, false, false, false, false] rfl rfl (by kernel_rfl) (fun _ _ _ h => h) (Or.inl ⟨by rfl, ?_⟩) ?_ ?_
            rotate_left
            · intro w'
              go_simp
              with_reducible rfl
            rotate_left
            · simp only [Act.put, List.setIfInBounds_toArray, List.set_cons_zero, List.set_cons_succ, i64_w, i32_w]
              rfl
            refine pure_ (i := 1) (N := some 49) (v := ?_) (a' := ?_) #[true, true, false, false, false, false, false, false, false, false, false, false, false, false, false, false, false] rfl rfl (by kernel_rfl) (fun _ _ _ h => h) (Or.inl ⟨by rfl, ?_⟩) ?_ ?_
            rotate_left
            · intro w'
              go_simp
              with_reducible rfl
            rotate_left
            · simp only [Act.put, List.setIfInBounds_toArray, List.set_cons_zero, List.set_cons_succ, i64_w, i32_w]
              rfl
            refine pure_ (i := 2) (N := some 50) (v := ?_) (a' := ?_) #[true, true, true, false, false, false, false, false, false, false, false, false, false, false, false, false, false] rfl rfl (by kernel_rfl) (fun _ _ _ h => h) (Or.inl ⟨by rfl, ?_⟩) ?_ ?_
            rotate_left
            · intro w'
              go_simp
              with_reducible rfl
            rotate_left
            · simp only [Act.put, List.setIfInBounds_toArray, List.set_cons_zero, List.set_cons_succ, i64_w, i32_w]
              rfl
            refine pure_ (i := 3) (N := some 51) (v := ?_) (a' := ?_) #[true, true, true, true, false, false, false, false, false, false, false, false, false, false, false, false, false] rfl rfl (by kernel_rfl) (fun _ _ _ h => h) (Or.inl ⟨by rfl, ?_⟩) ?_ ?_
            rotate_left
            · intro w'
              go_simp
              with_reducible rfl
            rotate_left
            · simp only [Act.put, List.setIfInBounds_toArray, List.set_cons_zero, List.set_cons_succ, i64_w, i32_w]
              rfl
            refine pure_ (i := 4) (N := some 52) (v := ?_) (a' := ?_) #[true, true, true, true, true, false, false, false, false, false, false, false, false, false, false, false, false] rfl rfl (by kernel_rfl) (fun _ _ _ h => h) (Or.inl ⟨by rfl, ?_⟩) ?_ ?_
            rotate_left
            · intro w'
              go_simp
              with_reducible rfl
            rotate_left
            · simp only [Act.put, List.setIfInBounds_toArray, List.set_cons_zero, List.set_cons_succ, i64_w, i32_w]
              rfl
            refine pure_ (i := 5) (N := some 53) (v := ?_) (a' := ?_) #[true, true, true, true, true, true, false, false, false, false, false, false, false, false, false, false, false] rfl rfl (by kernel_rfl) (fun _ _ _ h => h) (Or.inl ⟨by rfl, ?_⟩) ?_ ?_
            rotate_left
            · intro w'
              go_simp
              with_reducible rfl
            rotate_left
            · simp only [Act.put, List.setIfInBounds_toArray, List.set_cons_zero, List.set_cons_succ, i64_w, i32_w]
              rfl
            refine pure_ (i := 6) (N := some 54) (v := ?_) (a' := ?_) #[true, true, true, true, true, true, true, false, false, false, false, false, false, false, false, false, false] rfl rfl (by kernel_rfl) (fun _ _ _ h => h) (Or.inl ⟨by rfl, ?_⟩) ?_ ?_
            rotate_left
            · intro w'
              go_simp
              with_reducible rfl
            rotate_left
            · simp only [Act.put, List.setIfInBounds_toArray, List.set_cons_zero, List.set_cons_succ, i64_w, i32_w]
              rfl
            refine pure_ (i := 7) (N := some 55) (v := ?_) (a' := ?_) #[true, true, true, true, true, true, true, true, false, false, false, false, false, false, false, false, false] rfl rfl (by kernel_rfl) (fun _ _ _ h => h) (Or.inl ⟨by rfl, ?_⟩) ?_ ?_
            rotate_left
            · intro w'
              go_simp
              with_reducible rfl
            rotate_left
            · simp only [Act.put, List.setIfInBounds_toArray, List.set_cons_zero, List.set_cons_succ, i64_w, i32_w]
              rfl
            refine pure_ (i := 8) (N := some 56) (v := ?_) (a' := ?_) #[true, true, true, true, true, true, true, true, true, false, false, false, false, false, false, false, false] rfl rfl (by kernel_rfl) (fun _ _ _ h => h) (Or.inl ⟨by rfl, ?_⟩) ?_ ?_
            rotate_left
            · intro w'
              go_simp
              with_reducible rfl
            rotate_left
            · simp only [Act.put, List.setIfInBounds_toArray, List.set_cons_zero, List.set_cons_succ, i64_w, i32_w]
              rfl
            refine pure_ (i := 9) (N := some 57) (v := ?_) (a' := ?_) #[true, true, true, true, true, true, true, true, true, true, false, false, false, false, false, false, false] rfl rfl (by kernel_rfl) (fun _ _ _ h => h) (Or.inl ⟨by rfl, ?_⟩) ?_ ?_
            rotate_left
            · intro w'
              go_simp
              with_reducible rfl
            rotate_left
            · simp only [Act.put, List.setIfInBounds_toArray, List.set_cons_zero, List.set_cons_succ, i64_w, i32_w]
              rfl
            refine pure_ (i := 10) (N := some 58) (v := ?_) (a' := ?_) #[true, true, true, true, true, true, true, true, true, true, true, false, false, false, false, false, false] rfl rfl (by kernel_rfl) (fun _ _ _ h => h) (Or.inl ⟨by rfl, ?_⟩) ?_ ?_
            rotate_left
            · intro w'
              go_simp
              with_reducible rfl
            rotate_left
            · simp only [Act.put, List.setIfInBounds_toArray, List.set_cons_zero, List.set_cons_succ, i64_w, i32_w]
              rfl
            refine take_ (i := 11) (N := some 59) (v := ?_) (a' := ?_) #[true, true, true, true, true, true, true, true, true, true, true, true, false, false, false, false, false] rfl rfl (by kernel_rfl) (fun _ _ _ h => h) (Or.inl ⟨by rfl, ?_⟩) hHeld ?_ ?_
            rotate_left
            · intro w' hL'
              have kd := hL'.part (X := X) HJ.out.symm j (by omega)
              rw [HP.out] at kd
              go_simp
              with_reducible rfl
            rotate_left
            · simp only [Act.put, List.setIfInBounds_toArray, List.set_cons_zero, List.set_cons_succ, i64_w, i32_w]
              rfl
            refine pure_ (i := 13) (N := some 61) (v := ?_) (a' := ?_) #[true, true, true, true, true, true, true, true, true, true, true, true, false, true, false, false, false] rfl rfl (by kernel_rfl) (fun _ _ _ h => h) (Or.inl ⟨by rfl, ?_⟩) ?_ ?_
            rotate_left
            · intro w'
              go_simp
              with_reducible rfl
            rotate_left
            · simp only [Act.put, List.setIfInBounds_toArray, List.set_cons_zero, List.set_cons_succ, i64_w, i32_w]
              rfl
            refine take_ (i := 14) (N := some 62) (v := ?_) (a' := ?_) #[true, true, true, true, true, true, true, true, true, true, true, true, false, true, true, false, false] rfl rfl (by kernel_rfl) (fun _ _ _ h => h) (Or.inl ⟨by rfl, ?_⟩) hHeld ?_ ?_
            rotate_left
            · intro w' hL'
              have kd := hL'.whole (X := X) HJ.out.symm
              rw [HT.out] at kd
              go_simp
              with_reducible rfl
            rotate_left
            · simp only [Act.put, List.setIfInBounds_toArray, List.set_cons_zero, List.set_cons_succ, i64_w, i32_w]
              rfl
            refine one_ (i := 12) (N := some 60) #[true, true, true, true, true, true, true, true, true, true, true, true, true, true, true, false, false] rfl rfl (by kernel_rfl) (by decide) (fun K hK => ?_)
            refine goes_ Tryd.func66 (by kernel_rfl) rfl #[.string P] (by rfl) rfl rfl (by simp only [List.map_toArray, List.map_cons, List.map_nil]; rfl) ?_
            refine (refBody_any P _ (by omega)).mono ?_
            rw [HY.out]
            rintro e w' ⟨rfl, hb'⟩
            refine ⟨_, rfl, ?_⟩
            refine hK.out _ _ (hHeld.more hb') (fun hHeld => ?_)
            clear hK K
            refine norm_ (a' := ?_) ?_ ?_
            rotate_left
            · show Act.put _ (some 60) _ = _
              simp only [Act.put, List.setIfInBounds_toArray, List.set_cons_zero, List.set_cons_succ, i64_w, i32_w]
              rfl
            refine pure_ (i := 15) (N := some 63) (v := ?_) (a' := ?_) #[true, true, true, true, true, true, true, true, true, true, true, true, true, true, true, true, false] rfl rfl (by kernel_rfl) (fun _ _ _ h => h) (Or.inl ⟨by rfl, ?_⟩) ?_ ?_
            rotate_left
            · intro w'
              go_simp
              with_reducible rfl
            rotate_left
            · simp only [Act.put, List.setIfInBounds_toArray, List.set_cons_zero, List.set_cons_succ, i64_w, i32_w]
              rfl
            refine pure_ (i := 16) (N := some 64) (v := ?_) (a' := ?_) #[true, true, true, true, true, true, true, true, true, true, true, true, true, true, true, true, true] rfl rfl (by kernel_rfl) (fun _ _ _ h => h) (Or.inl ⟨by rfl, ?_⟩) ?_ ?_
            rotate_left
            · intro w'
              go_simp
              with_reducible rfl
            rotate_left
            · simp only [Act.put, List.setIfInBounds_toArray, List.set_cons_zero, List.set_cons_succ, i64_w, i32_w]
              rfl
            refine done_ (by kernel_rfl) ?_
            have kd := hHeld.part (X := X) HJ.out.symm j (by omega)
            rw [HP.out] at kd
            go_wp2
            go_ret2
            exact ⟨congrArg Ending.returned HVP.out, hHeld.below⟩
          · have i4 : (Y.toList == T.toList) = false := neq_l (by rw [hYl, hTl]; exact h4)
            have i4' : ¬ Y.toList = T.toList := by simpa using i4
            have HVN : Hid (payV none = V) := Lib.hid (by
              rw [← HV.out, payR_not HUX.out (by rw [HJ.out]; exact h4)])
            clear h4 hP hT hPl hTl hY hYl hbig hm hj hlen hXl
            go_wp2_with fail
            refine start_ (n := 17) (S := fun w' => Es w w' (.slice A9 (j + 2) c9) (uh X)) (ds := []) #[false, false, false, false, false, false, false, false, false, false, false, false, false, false, false, false, false] (by kernel_rfl) rfl rfl (hE.out.more (below_drew (Below.refl _ _))) (fun hHeld => ?_)
            refine pure_ (i := 0) (N := some 48) (v := ?_) (a' := ?_) #[true, false, false, false, false, false, false, false, false, false, false, false, false, false, false, false, false] rfl rfl (by kernel_rfl) (fun _ _ _ h => h) (Or.inl ⟨by rfl, ?_⟩) ?_ ?_
            rotate_left
            · intro w'
              go_simp
              with_reducible rfl
            rotate_left
            · simp only [Act.put, List.setIfInBounds_toArray, List.set_cons_zero, List.set_cons_succ, i64_w, i32_w]
              rfl
            refine pure_ (i := 1) (N := some 49) (v := ?_) (a' := ?_) #[true, true, false, false, false, false, false, false, false, false, false, false, false, false, false, false, false] rfl rfl (by kernel_rfl) (fun _ _ _ h => h) (Or.inl ⟨by rfl, ?_⟩) ?_ ?_
            rotate_left
            · intro w'
              go_simp
              with_reducible rfl
            rotate_left
            · simp only [Act.put, List.setIfInBounds_toArray, List.set_cons_zero, List.set_cons_succ, i64_w, i32_w]
              rfl
            refine pure_ (i := 2) (N := some 50) (v := ?_) (a' := ?_) #[true, true, true, false, false, false, false, false, false, false, false, false, false, false, false, false, false] rfl rfl (by kernel_rfl) (fun _ _ _ h => h) (Or.inl ⟨by rfl, ?_⟩) ?_ ?_
            rotate_left
            · intro w'
              go_simp
              with_reducible rfl
            rotate_left
            · simp only [Act.put, List.setIfInBounds_toArray, List.set_cons_zero, List.set_cons_succ, i64_w, i32_w]
              rfl
            refine pure_ (i := 3) (N := some 51) (v := ?_) (a' := ?_) #[true, true, true, true, false, false, false, false, false, false, false, false, false, false, false, false, false] rfl rfl (by kernel_rfl) (fun _ _ _ h => h) (Or.inl ⟨by rfl, ?_⟩) ?_ ?_
            rotate_left
            · intro w'
              go_simp
              with_reducible rfl
            rotate_left
            · simp only [Act.put, List.setIfInBounds_toArray, List.set_cons_zero, List.set_cons_succ, i64_w, i32_w]
              rfl
            refine pure_ (i := 4) (N := some 52) (v := ?_) (a' := ?_) #[true, true, true, true, true, false, false, false, false, false, false, false, false, false, false, false, false] rfl rfl (by kernel_rfl) (fun _ _ _ h => h) (Or.inl ⟨by rfl, ?_⟩) ?_ ?_
            rotate_left
            · intro w'
              go_simp
              with_reducible rfl
            rotate_left
            · simp only [Act.put, List.setIfInBounds_toArray, List.set_cons_zero, List.set_cons_succ, i64_w, i32_w]
              rfl
            refine pure_ (i := 5) (N := some 53) (v := ?_) (a' := ?_) #[true, true, true, true, true, true, false, false, false, false, false, false, false, false, false, false, false] rfl rfl (by kernel_rfl) (fun _ _ _ h => h) (Or.inl ⟨by rfl, ?_⟩) ?_ ?_
            rotate_left
            · intro w'
              go_simp
              with_reducible rfl
            rotate_left
            · simp only [Act.put, List.setIfInBounds_toArray, List.set_cons_zero, List.set_cons_succ, i64_w, i32_w]
              rfl
            refine pure_ (i := 6) (N := some 54) (v := ?_) (a' := ?_) #[true, true, true, true, true, true, true, false, false, false, false, false, false, false, false, false, false] rfl rfl (by kernel_rfl) (fun _ _ _ h => h) (Or.inl ⟨by rfl, ?_⟩) ?_ ?_
            rotate_left
            · intro w'
              go_simp
              with_reducible rfl
            rotate_left
            · simp only [Act.put, List.setIfInBounds_toArray, List.set_cons_zero, List.set_cons_succ, i64_w, i32_w]
              rfl
            refine pure_ (i := 7) (N := some 55) (v := ?_) (a' := ?_) #[true, true, true, true, true, true, true, true, false, false, false, false, false, false, false, false, false] rfl rfl (by kernel_rfl) (fun _ _ _ h => h) (Or.inl ⟨by rfl, ?_⟩) ?_ ?_
            rotate_left
            · intro w'
              go_simp
              with_reducible rfl
            rotate_left
            · simp only [Act.put, List.setIfInBounds_toArray, List.set_cons_zero, List.set_cons_succ, i64_w, i32_w]
              rfl
            refine pure_ (i := 8) (N := some 56) (v := ?_) (a' := ?_) #[true, true, true, true, true, true, true, true, true, false, false, false, false, false, false, false, false] rfl rfl (by kernel_rfl) (fun _ _ _ h => h) (Or.inl ⟨by rfl, ?_⟩) ?_ ?_
            rotate_left
            · intro w'
              go_simp
              with_reducible rfl
            rotate_left
            · simp only [Act.put, List.setIfInBounds_toArray, List.set_cons_zero, List.set_cons_succ, i64_w, i32_w]
              rfl
            refine pure_ (i := 9) (N := some 57) (v := ?_) (a' := ?_) #[true, true, true, true, true, true, true, true, true, true, false, false, false, false, false, false, false] rfl rfl (by kernel_rfl) (fun _ _ _ h => h) (Or.inl ⟨by rfl, ?_⟩) ?_ ?_
            rotate_left
            · intro w'
              go_simp
              with_reducible rfl
            rotate_left
            · simp only [Act.put, List.setIfInBounds_toArray, List.set_cons_zero, List.set_cons_succ, i64_w, i32_w]
              rfl
            refine pure_ (i := 10) (N := some 58) (v := ?_) (a' := ?_) #[true, true, true, true, true, true, true, true, true, true, true, false, false, false, false, false, false] rfl rfl (by kernel_rfl) (fun _ _ _ h => h) (Or.inl ⟨by rfl, ?_⟩) ?_ ?_
            rotate_left
            · intro w'
              go_simp
              with_reducible rfl
            rotate_left
            · simp only [Act.put, List.setIfInBounds_toArray, List.set_cons_zero, List.set_cons_succ, i64_w, i32_w]
              rfl
            refine take_ (i := 11) (N := some 59) (v := ?_) (a' := ?_) #[true, true, true, true, true, true, true, true, true, true, true, true, false, false, false, false, false] rfl rfl (by kernel_rfl) (fun _ _ _ h => h) (Or.inl ⟨by rfl, ?_⟩) hHeld ?_ ?_
            rotate_left
            · intro w' hL'
              have kd := hL'.part (X := X) HJ.out.symm j (by omega)
              rw [HP.out] at kd
              go_simp
              with_reducible rfl
            rotate_left
            · simp only [Act.put, List.setIfInBounds_toArray, List.set_cons_zero, List.set_cons_succ, i64_w, i32_w]
              rfl
            refine pure_ (i := 13) (N := some 61) (v := ?_) (a' := ?_) #[true, true, true, true, true, true, true, true, true, true, true, true, false, true, false, false, false] rfl rfl (by kernel_rfl) (fun _ _ _ h => h) (Or.inl ⟨by rfl, ?_⟩) ?_ ?_
            rotate_left
            · intro w'
              go_simp
              with_reducible rfl
            rotate_left
            · simp only [Act.put, List.setIfInBounds_toArray, List.set_cons_zero, List.set_cons_succ, i64_w, i32_w]
              rfl
            refine take_ (i := 14) (N := some 62) (v := ?_) (a' := ?_) #[true, true, true, true, true, true, true, true, true, true, true, true, false, true, true, false, false] rfl rfl (by kernel_rfl) (fun _ _ _ h => h) (Or.inl ⟨by rfl, ?_⟩) hHeld ?_ ?_
            rotate_left
            · intro w' hL'
              have kd := hL'.whole (X := X) HJ.out.symm
              rw [HT.out] at kd
              go_simp
              with_reducible rfl
            rotate_left
            · simp only [Act.put, List.setIfInBounds_toArray, List.set_cons_zero, List.set_cons_succ, i64_w, i32_w]
              rfl
            refine one_ (i := 12) (N := some 60) #[true, true, true, true, true, true, true, true, true, true, true, true, true, true, true, false, false] rfl rfl (by kernel_rfl) (by decide) (fun K hK => ?_)
            refine goes_ Tryd.func66 (by kernel_rfl) rfl #[.string P] (by rfl) rfl rfl (by simp only [List.map_toArray, List.map_cons, List.map_nil]; rfl) ?_
            refine (refBody_any P _ (by omega)).mono ?_
            rw [HY.out]
            rintro e w' ⟨rfl, hb'⟩
            refine ⟨_, rfl, ?_⟩
            refine hK.out _ _ (hHeld.more hb') (fun hHeld => ?_)
            clear hK K
            refine norm_ (a' := ?_) ?_ ?_
            rotate_left
            · show Act.put _ (some 60) _ = _
              simp only [Act.put, List.setIfInBounds_toArray, List.set_cons_zero, List.set_cons_succ, i64_w, i32_w]
              rfl
            refine pure_ (i := 15) (N := some 63) (v := ?_) (a' := ?_) #[true, true, true, true, true, true, true, true, true, true, true, true, true, true, true, true, false] rfl rfl (by kernel_rfl) (fun _ _ _ h => h) (Or.inl ⟨by rfl, ?_⟩) ?_ ?_
            rotate_left
            · intro w'
              go_simp
              with_reducible rfl
            rotate_left
            · simp only [Act.put, List.setIfInBounds_toArray, List.set_cons_zero, List.set_cons_succ, i64_w, i32_w]
              rfl
            refine pure_ (i := 16) (N := some 64) (v := ?_) (a' := ?_) #[true, true, true, true, true, true, true, true, true, true, true, true, true, true, true, true, true] rfl rfl (by kernel_rfl) (fun _ _ _ h => h) (Or.inl ⟨by rfl, ?_⟩) ?_ ?_
            rotate_left
            · intro w'
              go_simp
              with_reducible rfl
            rotate_left
            · simp only [Act.put, List.setIfInBounds_toArray, List.set_cons_zero, List.set_cons_succ, i64_w, i32_w]
              rfl
            refine done_ (by kernel_rfl) ?_
            go_wp2
            go_ret2
            exact ⟨congrArg Ending.returned HVN.out, hHeld.below⟩
end Go.Proofs.YtdgejkiackeieaaDoor.Fr
end
section
set_option linter.unusedVariables false
set_option linter.unusedSimpArgs false
/- The walk of FrameOnly. -/
set_option linter.unusedVariables false
set_option linter.unusedSimpArgs false
namespace Go.Proofs.YtdgejkiackeieaaDoor.Fr
open Go.RowKit Go.Proofs.YtdgejkiackeieaaDoor Go.Proofs.YtdgejkiackeieaaDoor.Wr Go.Proofs.YtdgejkiackeieaaDoorW.PrintWords Go.Proofs.YtdgejkiackeieaaDoorW.PrintMore Go.Proofs.YtdgejkiackeieaaDoorW.PrintLast
theorem extract_mid (s : ByteArray) (a n : Nat) : (s.extract a (a + n)).data.toList = (s.data.toList.drop a).take n := by
  rw [ByteArray.data_extract, Array.toList_extract]
  simp [List.extract, List.take_drop]
end Go.Proofs.YtdgejkiackeieaaDoor.Fr
end
section
set_option linter.unusedVariables false
set_option linter.unusedSimpArgs false
/- Layer 23: the reference's Decode. -/
set_option linter.unusedVariables false
set_option linter.unusedSimpArgs false
namespace Go.Proofs.YtdgejkiackeieaaDoor.Fr
open Go.RowKit Go.Proofs.YtdgejkiackeieaaDoor Go.Proofs.YtdgejkiackeieaaDoor.Wr Go.Proofs.YtdgejkiackeieaaDoorW.PrintWords Go.Proofs.YtdgejkiackeieaaDoorW.PrintMore Go.Proofs.YtdgejkiackeieaaDoorW.PrintLast
/-- Where the last flag stands. -/
def LastF (a : List UInt8) (L : Int) : Prop := (L = -1 ∧ 126 ∉ a) ∨ ∃ p r, a = p ++ 126 :: r ∧ 126 ∉ r ∧ L = (p.length : Int)
theorem lastf_plain {a : List UInt8} {L : Int} {c : UInt8} (hc : c ≠ 126) (h : LastF a L) : LastF (a ++ [c]) L := by
  rcases h with ⟨h1, h2⟩ | ⟨p, r, rfl, hr, h3⟩
  · refine Or.inl ⟨h1, fun h => ?_⟩
    rcases List.mem_append.1 h with h | h
    · exact h2 h
    · exact hc (List.mem_singleton.1 h).symm
  · refine Or.inr ⟨p, r ++ [c], by simp, fun h => ?_, h3⟩
    rcases List.mem_append.1 h with h | h
    · exact hr h
    · exact hc (List.mem_singleton.1 h).symm
theorem lastf_flag (a : List UInt8) : LastF (a ++ [126]) (a.length : Int) := Or.inr ⟨a, [], rfl, by simp, rfl⟩
theorem pays_plain {a : List UInt8} {L : Int} {c : UInt8} (hc : c ≠ 126) (h : LastF a L) : pays crcF (a ++ [c]) = pays crcF a := by
  have hcf : 126 ∉ [c] := fun h => hc (List.mem_singleton.1 h).symm
  rcases h with ⟨_, h2⟩ | ⟨p, r, rfl, hr, _⟩
  · rw [(pays_skip crcF h2 [c]).1, (pays_free crcF hcf).1, (pays_free crcF h2).1]
  · rw [(cut_two crcF (p ++ 126 :: r) [c]).1, rest_last p hr]
    split
    · have : 126 ∉ r ++ [c] := fun h => by
        rcases List.mem_append.1 h with h | h
        · exact hr h
        · exact hcf h
      rw [show (126 :: r) ++ [c] = 126 :: (r ++ [c]) from rfl, pays_open crcF this, List.append_nil]
    · rw [List.nil_append, (pays_free crcF hcf).1, List.append_nil]
theorem pays_first {a : List UInt8} (h : 126 ∉ a) : pays crcF (a ++ [126]) = pays crcF a := by
  rw [(pays_skip crcF h [126]).1, pays_flag, (pays_free crcF h).1]
theorem pays_next (p : List UInt8) {r : List UInt8} (hr : 126 ∉ r) : pays crcF ((p ++ 126 :: r) ++ [126]) = pays crcF (p ++ 126 :: r) ++ (payB crcF r).toList := by
  rw [(cut_two crcF (p ++ 126 :: r) [126]).1, rest_last p hr]
  split
  · rw [show (126 :: r) ++ [126] = 126 :: (r ++ 126 :: []) from rfl, pays_seg crcF hr [], pays_flag, List.append_nil]
  · rw [List.nil_append, pays_flag, payB_long crcF (by omega)]; rfl
theorem pays_len (l : List UInt8) : ((pays crcF l).map mkB).length ≤ l.length := by
  unfold pays
  rw [List.length_map]
  exact Nat.le_trans (List.length_filterMap_le _ _) (segs_length _)
theorem texts_one (w : World) (x : ByteArray) : Kd.C Kd.string (w.alloc (Obj.cells #[Value.string x] 9)) (some ⟨w.heap.size, 0, none⟩) [x].length [x] := by
  have hb := heap_alloc_new w (Obj.cells #[Value.string x] 9)
  refine Kd.C_of_reads (enc := Value.string) (d := ByteArray.empty) (h1 := fun _ => rfl) ⟨rfl, (show (1 : Nat) ≤ 9223372036854775807 from by decide), fun _ => ⟨_, rfl, fun j hj => ?_⟩⟩
  rw [add_plain]
  have h2 : j = 0 := by simp at hj; omega
  subst h2
  exact (blk_cell hb 0).trans rfl
/-- The payloads so far. -/
structure Pd (w0 w : World) (v : Value) (gl : List ByteArray) : Prop where
  own : Kd.R Kd.string 9 w w0.heap.size (fun _ => True) v gl
  below : Below w0.heap.size w0 w
theorem Pd.more {w0 w w' : World} {v : Value} {gl : List ByteArray} (h : Pd w0 w v gl) (hb : Below w.heap.size w w') : Pd w0 w' v gl :=
  ⟨Kd.R_below h.own hb, h.below.trans (hb.mono h.below.size)⟩
def DecPost (w : World) (s : ByteArray) (e : Ending) (w' : World) : Prop := ∃ v, e = .returned (.tuple #[v, .string (mkB (restB s.data.toList))]) ∧ Kd.R Kd.string 9 w' w.heap.size (fun _ => True) v (decL s) ∧ Below w.heap.size w w'
set_option maxHeartbeats 8000000 in
set_option maxRecDepth 100000 in
theorem refDecode_any (s : ByteArray) (w : World) (hs : s.size ≤ 1000000) : Calls Tryd.prog 62 #[.string s] w (DecPost w s) := by
  go_enter Tryd.func62, Tryd.ntmps62
  go_wp2
  go_loopw [4, 5, 6] (fun v4 v5 v6 wr => ∃ (k : Nat) (L : Int) (vv : Value), vv = v4 ∧ k ≤ s.size ∧ v6 = .int .i64 k ∧ v5 = .int .i64 L ∧ -1 ≤ L ∧ L < k ∧ Hid (LastF (s.data.toList.take k) L) ∧ Hid (Pd w wr vv ((pays crcF (s.data.toList.take k)).map mkB))) (fun _ _ v6 _ => s.size - (intOf v6).toNat)
  case atStart => exact ⟨0, -1, _, rfl, by omega, rfl, rfl, by omega, by omega, Lib.hid (Or.inl ⟨rfl, by simp⟩), Lib.hid ⟨by rw [List.take_zero]; exact Kd.R_nil _ _ _ _ _, Below.refl _ _⟩⟩
  case round =>
    obtain ⟨k, L, v4, rfl, hk, rfl, rfl, hL0, hL1, hLF, hB⟩ := hrel
    obtain ⟨gl, hgl⟩ : ∃ gl, (pays crcF (s.data.toList.take k)).map mkB = gl := ⟨_, rfl⟩
    have hglz : gl.length ≤ 1000000 := by
      rw [← hgl]
      have := pays_len (s.data.toList.take k)
      rw [List.length_take, len_size] at this; omega
    rw [hgl] at hB
    have HGL := Lib.hid hgl
    clear hgl
    by_cases hlt : k < s.size
    · have hkl : k < s.data.toList.length := by rw [len_size]; exact hlt
      have htk := List.take_succ_eq_append_getElem hkl
      have hby := byte_at s _ rfl k hlt
      obtain ⟨c, hc⟩ : ∃ c, s.data.toList[k] = c := ⟨_, rfl⟩
      rw [hc] at htk hby
      have HTK := Lib.hid htk
      clear htk hc
      by_cases h6 : c = 126
      · subst h6
        have hlk : (s.data.toList.take k).length = k := by rw [List.length_take]; omega
        have HLF2 : Hid (LastF (s.data.toList.take (k + 1)) (k : Int)) := Lib.hid (by
          have := lastf_flag (s.data.toList.take k)
          rw [hlk] at this
          rw [HTK.out]; exact this)
        by_cases hneg : L < 0
        · have hfree : 126 ∉ s.data.toList.take k := by
            rcases hLF.out with ⟨_, h⟩ | ⟨p, r, _, _, h⟩
            · exact h
            · omega
          have HB2 : Hid (Pd w wr v4 ((pays crcF (s.data.toList.take (k + 1))).map mkB)) := Lib.hid (by
            rw [HTK.out, pays_first hfree, HGL.out]; exact hB.out)
          have hn : ¬ (0 : Int) ≤ L := by omega
          clear hfree hlk
          go_wp2
          go_roundw
          case rel => exact ⟨k + 1, k, v4, rfl, by omega, by go_num, rfl, by omega, by omega, HLF2, HB2⟩
          case measure => simp [intOf]; omega
        · obtain ⟨p, r, hpr, hr, hLp⟩ : ∃ p r, s.data.toList.take k = p ++ 126 :: r ∧ 126 ∉ r ∧ L = (p.length : Int) := by
            rcases hLF.out with ⟨h, _⟩ | h
            · omega
            · exact h
          obtain ⟨q, hq⟩ : ∃ q, p.length = q := ⟨_, rfl⟩
          rw [hq] at hLp
          subst hLp
          have hkq : k = q + 1 + r.length := by rw [hpr, List.length_append, List.length_cons] at hlk; omega
          obtain ⟨P, hP⟩ : ∃ P, s.extract (q + 1) k = P := ⟨_, rfl⟩
          have hPl : P.data.toList = r := by
            have e1 : (s.data.toList.drop (q + 1)).take r.length = r := by
              have e2 : (s.data.toList.take k).drop (q + 1) = r := by
                rw [hpr, ← hq, ← List.drop_drop, List.drop_left]; rfl
              rw [List.drop_take, show k - (q + 1) = r.length by omega] at e2
              exact e2
            rw [← hP]
            conv => lhs; rw [hkq]
            rw [extract_mid]; exact e1
          have hPz : P.size ≤ 1000000 := by rw [← len_size, hPl]; omega
          have hPf : 126 ∉ P.data.toList := by rw [hPl]; exact hr
          have hpx := pays_next p hr
          have HPX : Hid ((pays crcF (s.data.toList.take (k + 1))).map mkB = gl ++ ((payB crcF P.data.toList).toList).map mkB) := Lib.hid (by
            rw [HTK.out, hpr, hpx, List.map_append, ← hpr, HGL.out, hPl])
          have hqk : q + 1 ≤ k := by omega
          have HPF := Lib.hid hPf
          obtain ⟨a, ha⟩ : ∃ a, q + 1 = a := ⟨_, rfl⟩
          rw [ha] at hP
          have j0 : (0 : Int) ≤ (q : Int) := by omega
          have ja : (q : Int) + 1 = (a : Int) := by omega
          have ja0 : (0 : Int) ≤ (a : Int) := by omega
          have j1 : (a : Int) ≤ (k : Int) := by omega
          clear ha
          have j2 : (k : Int) ≤ (s.size : Int) := by omega
          clear hlk hneg hpr hr hq hkq hPl hPf hpx
          go_wp2_with fail
          refine (refPayload_any P wr hPz HPF.out).mono ?_
          cases hpb : payB crcF P.data.toList with
          | none =>
            have HB2 : Hid (Pd w wr v4 ((pays crcF (s.data.toList.take (k + 1))).map mkB)) := Lib.hid (by
              rw [HPX.out, hpb, show ((none : Option (List UInt8)).toList).map mkB = [] from rfl, List.append_nil]; exact hB.out)
            unfold payV
            simp only
            rintro e w3 ⟨rfl, b3⟩
            have HB3 := Lib.hid (HB2.out.more b3)
            clear hpb b3
            go_wp2
            go_roundw
            case rel => exact ⟨k + 1, k, v4, rfl, by omega, by go_num, rfl, by omega, by omega, HLF2, HB3⟩
            case measure => simp [intOf]; omega
          | some x =>
            obtain ⟨X, hX⟩ : ∃ X, mkB x = X := ⟨_, rfl⟩
            have HXX : Hid ((pays crcF (s.data.toList.take (k + 1))).map mkB = gl ++ [X]) := Lib.hid (by
              rw [HPX.out, hpb, ← hX]; rfl)
            unfold payV
            simp only
            rw [hX]
            rintro e w3 ⟨rfl, b3⟩
            have HB3 := Lib.hid (hB.out.more b3)
            clear hpb b3 hX hB
            go_wp2_with (at_builtin; refine Kd.R_append_row (w0 := w) Value.string ByteArray.empty w.heap.size rfl _ _ 40 9 (.string ⟨#[]⟩) 16 rfl Tryd.underlying40 info9 rfl (by decide) _ gl [X] (some ⟨w3.heap.size, 0, none⟩) 1 1 (fun _ => True) rfl rfl (fun _ _ => trivial) (Kd.R_below HB3.out.own ?r0) (texts_one w3 X) ?r1 ?r2 (by omega) ?_)
            case r0 => exact (Below.refl _ _).alloc (Nat.le_refl _) _
            case r1 => exact HB3.out.below.alloc HB3.out.below.size _
            case r2 => have := HB3.out.below.size; simp; omega
            intro v5 w5 hown5 hb5 _ _
            have HB5 : Hid (Pd w w5 v5 ((pays crcF (s.data.toList.take (k + 1))).map mkB)) := Lib.hid (by rw [HXX.out]; exact ⟨hown5, hb5⟩)
            clear hown5 hb5 HB3
            go_wp2
            go_roundw
            case rel => exact ⟨k + 1, k, v5, rfl, by omega, by go_num, rfl, by omega, by omega, HLF2, HB5⟩
            case measure => simp [intOf]; omega
      · have hn6 : ((c.toNat : Int) == 126) = false := by
          rw [beq_eq_false_iff_ne]; intro e; apply h6; apply UInt8.toNat_inj.1; exact Int.ofNat.inj e
        have hn6b : ((c.toNat : Int) != 126) = true := by rw [bne, hn6]; rfl
        have HLF2 : Hid (LastF (s.data.toList.take (k + 1)) L) := Lib.hid (by rw [HTK.out]; exact lastf_plain h6 hLF.out)
        have HB2 : Hid (Pd w wr v4 ((pays crcF (s.data.toList.take (k + 1))).map mkB)) := Lib.hid (by
          rw [HTK.out, pays_plain h6 hLF.out, HGL.out]; exact hB.out)
        clear h6
        go_wp2
        go_roundw
        case rel => exact ⟨k + 1, L, v4, rfl, by omega, by go_num, rfl, by omega, by omega, HLF2, HB2⟩
        case measure => simp [intOf]; omega
    · obtain rfl : k = s.size := by omega
      have hta : s.data.toList.take s.size = s.data.toList := List.take_of_length_le (by rw [len_size]; exact Nat.le_refl _)
      have hgd : gl = decL s := by rw [← HGL.out, hta]; rfl
      have hlf := hLF.out
      rw [hta] at hlf
      clear hLF HGL hta hlt
      subst hgd
      by_cases hneg : L < 0
      · have hfree : 126 ∉ s.data.toList := by
          rcases hlf with ⟨_, h⟩ | ⟨p, r, _, _, h⟩
          · exact h
          · omega
        have HRE : Hid (restB s.data.toList = []) := Lib.hid (pays_free crcF hfree).2
        have hnd : decide (L < 0) = true := decide_eq_true hneg
        clear hfree hlf
        go_wp2
        go_ret2
        exact ⟨v4, by rw [HRE.out]; rfl, hB.out.own, hB.out.below⟩
      · obtain ⟨p, r, hpr, hr, hLp⟩ : ∃ p r, s.data.toList = p ++ 126 :: r ∧ 126 ∉ r ∧ L = (p.length : Int) := by
          rcases hlf with ⟨h, _⟩ | h
          · omega
          · exact h
        obtain ⟨q, hq⟩ : ∃ q, p.length = q := ⟨_, rfl⟩
        rw [hq] at hLp
        subst hLp
        have hrl := rest_last p hr
        rw [← hpr] at hrl
        have hsz : s.size = q + 1 + r.length := by rw [← len_size, hpr, List.length_append, List.length_cons]; omega
        have hnd : decide ((q : Int) < 0) = false := decide_eq_false hneg
        have HRL := Lib.hid hrl; have HSZ := Lib.hid hsz
        by_cases hbig : 2048 < r.length
        · have hbd : (2048 : Int) < (s.size : Int) - (q : Int) - 1 := by omega
          have HRE : Hid (restB s.data.toList = []) := Lib.hid (by rw [HRL.out, if_neg (by omega)])
          clear hlf hpr hrl hsz hq hr hbig hneg
          go_wp2
          go_ret2
          exact ⟨v4, by rw [HRE.out]; rfl, hB.out.own, hB.out.below⟩
        · have hbd : ¬ (2048 : Int) < (s.size : Int) - (q : Int) - 1 := by omega
          obtain ⟨E, hE⟩ : ∃ E, s.extract q s.size = E := ⟨_, rfl⟩
          have HRE : Hid (mkB (restB s.data.toList) = E) := Lib.hid (by
            rw [HRL.out, if_pos (by omega), ← hE]
            apply ext_
            show (126 :: r : List UInt8) = _
            rw [extract_drop, hpr, ← hq, List.drop_left])
          have q1 : (q : Int) ≤ (s.size : Int) := by omega
          clear hlf hpr hrl hsz hq hr hbig hneg
          go_wp2_with fail
          go_quiet (fail)
          go_wp2
          go_ret2
          exact ⟨v4, by rw [HRE.out]; rfl, (hB.out.more (pw_below_drewN (Below.refl _ _) _)).own, pw_below_drewN hB.out.below _⟩
end Go.Proofs.YtdgejkiackeieaaDoor.Fr
end
section
set_option linter.unusedVariables false
set_option linter.unusedSimpArgs false
/- The walk of FrameTells. -/
set_option linter.unusedVariables false
set_option linter.unusedSimpArgs false
namespace Go.Proofs.YtdgejkiackeieaaDoor.Fr
open Go.RowKit Go.Proofs.YtdgejkiackeieaaDoor Go.Proofs.YtdgejkiackeieaaDoor.Wr Go.Proofs.YtdgejkiackeieaaDoorW.PrintWords Go.Proofs.YtdgejkiackeieaaDoorW.PrintMore Go.Proofs.YtdgejkiackeieaaDoorW.PrintLast
set_option maxHeartbeats 8000000 in
set_option maxRecDepth 100000 in
theorem FrameTells_any (s o : ByteArray) (w : World) (hM : MaxW w) : Calls Tryd.prog 13 #[.string s, .string o] w fun e w' => e = .returned (.bool true) ∧ Below w.heap.size w w' := by
  have HM := Lib.hid hM
  clear hM
  go_enter Tryd.func13, Tryd.ntmps13
  go_wp2_with fail
  refine (small23_any w HM.out).mono ?_
  rintro e w1 ⟨rfl, b1⟩
  have B1 := Lib.hid b1; clear b1
  by_cases h1 : s.size ≤ 6000
  · have i1 : ¬ (6000 : Int) < (s.size : Int) := by omega
    by_cases h2 : o.size ≤ 6000
    · have i2 : ¬ (6000 : Int) < (o.size : Int) := by omega
      go_wp2_with fail
      refine (Decode_any o w1 (HM.out.below B1.out) (by omega)).mono ?_
      obtain ⟨D, hD⟩ : ∃ D, decL o = D := ⟨_, rfl⟩
      obtain ⟨R, hR⟩ : ∃ R, mkB (restB o.data.toList) = R := ⟨_, rfl⟩
      rw [hD, hR]
      rintro e w2 ⟨v2, rfl, r2, b2⟩
      obtain ⟨A2, c2, rfl, hc2, hC2⟩ := Kd.R_reads r2
      have B2 := Lib.hid (B1.out.trans (b2.mono B1.out.size)); have HC2 := Lib.hid hC2
      clear b2 r2 hC2
      go_wp2_with fail
      refine (refDecode_any o w2 (by omega)).mono ?_
      unfold DecPost
      rw [hD, hR]
      clear hD hR
      rintro e w3 ⟨v3, rfl, r3, b3⟩
      obtain ⟨A3, c3, rfl, hc3, hC3⟩ := Kd.R_reads r3
      have B3 := Lib.hid (B2.out.trans (b3.mono B2.out.size)); have HC3 := Lib.hid hC3; have HC23 := Lib.hid (Kd.C_below HC2.out b3)
      clear b3 r3 hC3
      go_wp2_with fail
      refine (Same_any A2 c2 D A3 c3 D w3 HC23.out hc2 HC3.out hc3).mono ?_
      rw [decide_eq_true rfl]
      rintro e w4 ⟨rfl, b4⟩
      have B4 := Lib.hid (B3.out.trans (b4.mono B3.out.size)); clear b4
      obtain ⟨F, hF⟩ : ∃ F, mkB (encB crcF s.data.toList) = F := ⟨_, rfl⟩
      have HF := Lib.hid hF; clear hF
      go_wp2_with fail
      refine (Encode_any s w4 (HM.out.below B4.out) (by omega)).mono ?_
      rw [HF.out]
      rintro e w5 ⟨rfl, b5⟩
      have B5 := Lib.hid (B4.out.trans (b5.mono B4.out.size)); clear b5
      go_wp2_with fail
      refine (refEncode_any s w5 (by omega)).mono ?_
      rw [HF.out]
      rintro e w6 ⟨rfl, b6⟩
      have B6 := Lib.hid (B5.out.trans (b6.mono B5.out.size)); clear b6
      go_wp2
      go_ret
      exact ⟨by simp, B6.out⟩
    · have i2 : (6000 : Int) < (o.size : Int) := by omega
      go_wp2
      go_ret
      exact ⟨rfl, B1.out⟩
  · have i1 : (6000 : Int) < (s.size : Int) := by omega
    go_wp2
    go_ret
    exact ⟨rfl, B1.out⟩
end Go.Proofs.YtdgejkiackeieaaDoor.Fr
end
