/- Texts of this claim, joined: RefB, PDigestTells4, PDigestTells5, RefC, PureDigestTells. -/
import Derived.Test.YtdgejkiackeieaaDoorTells2
import Derived.Test.YtdgejkiackeieaaDoorTells3
section
/- What the reference's compress computes, in the words of the program's own specifications. -/
set_option linter.unusedVariables false
set_option linter.unusedSimpArgs false
namespace Go.Proofs.YtdgejkiackeieaaDoor.RefA
open Go.RowKit Go.Proofs.YtdgejkiackeieaaDoor Go.Proofs.YtdgejkiackeieaaDoor.PDigestTells Go.Proofs.YtdgejkiackeieaaDoorW.PrintWords Go.Proofs.YtdgejkiackeieaaDoorW.PrintMore
theorem rd_el (xs : List Int) (i : Nat) : rd xs (i : Int) = el xs i := rfl
theorem zI_length (r : Nat) : (zI r).length = 16 := by simp [zI]
theorem g_eq (X : List Int) (a b c d : Nat) (x y : Int) (hX : X.length = 16) (ha : a < 16) (hb : b < 16) (hc : c < 16) (hd : d < 16) : bourneref03_g.f X (a : Int) b c d x y = some (mixI X a b c d x y) := by
  rw [bourneref03_g.f, if_pos ⟨hX, ⟨by omega, by omega⟩, ⟨by omega, by omega⟩, ⟨by omega, by omega⟩, by omega, by omega⟩]
  rfl
set_option maxHeartbeats 2000000 in
theorem round_eq (H M V : List Int) (hM : M.length = 16) (hV : V.length = 16) (r : Nat) (hr : r < 10) (k : Nat) :
    bourneref03_compress.l1 (k + 1) H M V r = bourneref03_compress.l1 k H M (half2 M r (half1 M r V 4) 4) ((r + 1 : Nat) : Int) := by
  have hz := zI_length r
  have L : ∀ i : Nat, i < 16 → (i : Int) < ((zI r).length : Int) := fun i hi => by rw [hz]; omega
  have hrd : ∀ i : Nat, i < 16 → rd (zI r) (i : Int) = (ordN r i : Int) := fun i hi => el_zI r i hi
  have P : ∀ i : Nat, i < 16 → 0 ≤ rd (zI r) (i : Int) := fun i hi => by rw [hrd i hi]; omega
  have Q : ∀ i : Nat, i < 16 → rd (zI r) (i : Int) < (M.length : Int) := fun i hi => by rw [hrd i hi, hM]; have := ordN_lt r i; omega
  have E : ∀ i : Nat, i < 16 → rd M (rd (zI r) (i : Int)) = el M (ordN r i) := fun i hi => by rw [hrd i hi]; rfl
  have ew : wrap64 ((r : Int) + 1) = ((r + 1 : Nat) : Int) := by unfold wrap64; omega
  rw [bourneref03_compress.l1, if_pos (by omega), order_eq r hr, Option.bind_some]
  rw [if_pos (show (0 : Int) < ((zI r).length : Int) from L 0 (by decide)), if_pos (show 0 ≤ rd (zI r) 0 from P 0 (by decide)), if_pos (show rd (zI r) 0 < (M.length : Int) from Q 0 (by decide)), if_pos (show (1 : Int) < ((zI r).length : Int) from L 1 (by decide)), if_pos (show 0 ≤ rd (zI r) 1 from P 1 (by decide)), if_pos (show rd (zI r) 1 < (M.length : Int) from Q 1 (by decide)), show rd M (rd (zI r) 0) = el M (ordN r 0) from E 0 (by decide), show rd M (rd (zI r) 1) = el M (ordN r 1) from E 1 (by decide)]
  obtain ⟨X0, hX0⟩ : ∃ X, mixI V 0 4 8 12 (el M (ordN r 0)) (el M (ordN r 1)) = X := ⟨_, rfl⟩
  have hl0 : X0.length = 16 := by rw [← hX0, mixI_length]; exact hV
  rw [show bourneref03_g.f V 0 4 8 12 (el M (ordN r 0)) (el M (ordN r 1)) = some (mixI V 0 4 8 12 (el M (ordN r 0)) (el M (ordN r 1))) from g_eq V 0 4 8 12 _ _ hV (by decide) (by decide) (by decide) (by decide), hX0, Option.bind_some]
  rw [if_pos (show (2 : Int) < ((zI r).length : Int) from L 2 (by decide)), if_pos (show 0 ≤ rd (zI r) 2 from P 2 (by decide)), if_pos (show rd (zI r) 2 < (M.length : Int) from Q 2 (by decide)), if_pos (show (3 : Int) < ((zI r).length : Int) from L 3 (by decide)), if_pos (show 0 ≤ rd (zI r) 3 from P 3 (by decide)), if_pos (show rd (zI r) 3 < (M.length : Int) from Q 3 (by decide)), show rd M (rd (zI r) 2) = el M (ordN r 2) from E 2 (by decide), show rd M (rd (zI r) 3) = el M (ordN r 3) from E 3 (by decide)]
  obtain ⟨X1, hX1⟩ : ∃ X, mixI X0 1 5 9 13 (el M (ordN r 2)) (el M (ordN r 3)) = X := ⟨_, rfl⟩
  have hl1 : X1.length = 16 := by rw [← hX1, mixI_length]; exact hl0
  rw [show bourneref03_g.f X0 1 5 9 13 (el M (ordN r 2)) (el M (ordN r 3)) = some (mixI X0 1 5 9 13 (el M (ordN r 2)) (el M (ordN r 3))) from g_eq X0 1 5 9 13 _ _ hl0 (by decide) (by decide) (by decide) (by decide), hX1, Option.bind_some]
  rw [if_pos (show (4 : Int) < ((zI r).length : Int) from L 4 (by decide)), if_pos (show 0 ≤ rd (zI r) 4 from P 4 (by decide)), if_pos (show rd (zI r) 4 < (M.length : Int) from Q 4 (by decide)), if_pos (show (5 : Int) < ((zI r).length : Int) from L 5 (by decide)), if_pos (show 0 ≤ rd (zI r) 5 from P 5 (by decide)), if_pos (show rd (zI r) 5 < (M.length : Int) from Q 5 (by decide)), show rd M (rd (zI r) 4) = el M (ordN r 4) from E 4 (by decide), show rd M (rd (zI r) 5) = el M (ordN r 5) from E 5 (by decide)]
  obtain ⟨X2, hX2⟩ : ∃ X, mixI X1 2 6 10 14 (el M (ordN r 4)) (el M (ordN r 5)) = X := ⟨_, rfl⟩
  have hl2 : X2.length = 16 := by rw [← hX2, mixI_length]; exact hl1
  rw [show bourneref03_g.f X1 2 6 10 14 (el M (ordN r 4)) (el M (ordN r 5)) = some (mixI X1 2 6 10 14 (el M (ordN r 4)) (el M (ordN r 5))) from g_eq X1 2 6 10 14 _ _ hl1 (by decide) (by decide) (by decide) (by decide), hX2, Option.bind_some]
  rw [if_pos (show (6 : Int) < ((zI r).length : Int) from L 6 (by decide)), if_pos (show 0 ≤ rd (zI r) 6 from P 6 (by decide)), if_pos (show rd (zI r) 6 < (M.length : Int) from Q 6 (by decide)), if_pos (show (7 : Int) < ((zI r).length : Int) from L 7 (by decide)), if_pos (show 0 ≤ rd (zI r) 7 from P 7 (by decide)), if_pos (show rd (zI r) 7 < (M.length : Int) from Q 7 (by decide)), show rd M (rd (zI r) 6) = el M (ordN r 6) from E 6 (by decide), show rd M (rd (zI r) 7) = el M (ordN r 7) from E 7 (by decide)]
  obtain ⟨X3, hX3⟩ : ∃ X, mixI X2 3 7 11 15 (el M (ordN r 6)) (el M (ordN r 7)) = X := ⟨_, rfl⟩
  have hl3 : X3.length = 16 := by rw [← hX3, mixI_length]; exact hl2
  rw [show bourneref03_g.f X2 3 7 11 15 (el M (ordN r 6)) (el M (ordN r 7)) = some (mixI X2 3 7 11 15 (el M (ordN r 6)) (el M (ordN r 7))) from g_eq X2 3 7 11 15 _ _ hl2 (by decide) (by decide) (by decide) (by decide), hX3, Option.bind_some]
  rw [if_pos (show (8 : Int) < ((zI r).length : Int) from L 8 (by decide)), if_pos (show 0 ≤ rd (zI r) 8 from P 8 (by decide)), if_pos (show rd (zI r) 8 < (M.length : Int) from Q 8 (by decide)), if_pos (show (9 : Int) < ((zI r).length : Int) from L 9 (by decide)), if_pos (show 0 ≤ rd (zI r) 9 from P 9 (by decide)), if_pos (show rd (zI r) 9 < (M.length : Int) from Q 9 (by decide)), show rd M (rd (zI r) 8) = el M (ordN r 8) from E 8 (by decide), show rd M (rd (zI r) 9) = el M (ordN r 9) from E 9 (by decide)]
  obtain ⟨X4, hX4⟩ : ∃ X, mixI X3 0 5 10 15 (el M (ordN r 8)) (el M (ordN r 9)) = X := ⟨_, rfl⟩
  have hl4 : X4.length = 16 := by rw [← hX4, mixI_length]; exact hl3
  rw [show bourneref03_g.f X3 0 5 10 15 (el M (ordN r 8)) (el M (ordN r 9)) = some (mixI X3 0 5 10 15 (el M (ordN r 8)) (el M (ordN r 9))) from g_eq X3 0 5 10 15 _ _ hl3 (by decide) (by decide) (by decide) (by decide), hX4, Option.bind_some]
  rw [if_pos (show (10 : Int) < ((zI r).length : Int) from L 10 (by decide)), if_pos (show 0 ≤ rd (zI r) 10 from P 10 (by decide)), if_pos (show rd (zI r) 10 < (M.length : Int) from Q 10 (by decide)), if_pos (show (11 : Int) < ((zI r).length : Int) from L 11 (by decide)), if_pos (show 0 ≤ rd (zI r) 11 from P 11 (by decide)), if_pos (show rd (zI r) 11 < (M.length : Int) from Q 11 (by decide)), show rd M (rd (zI r) 10) = el M (ordN r 10) from E 10 (by decide), show rd M (rd (zI r) 11) = el M (ordN r 11) from E 11 (by decide)]
  obtain ⟨X5, hX5⟩ : ∃ X, mixI X4 1 6 11 12 (el M (ordN r 10)) (el M (ordN r 11)) = X := ⟨_, rfl⟩
  have hl5 : X5.length = 16 := by rw [← hX5, mixI_length]; exact hl4
  rw [show bourneref03_g.f X4 1 6 11 12 (el M (ordN r 10)) (el M (ordN r 11)) = some (mixI X4 1 6 11 12 (el M (ordN r 10)) (el M (ordN r 11))) from g_eq X4 1 6 11 12 _ _ hl4 (by decide) (by decide) (by decide) (by decide), hX5, Option.bind_some]
  rw [if_pos (show (12 : Int) < ((zI r).length : Int) from L 12 (by decide)), if_pos (show 0 ≤ rd (zI r) 12 from P 12 (by decide)), if_pos (show rd (zI r) 12 < (M.length : Int) from Q 12 (by decide)), if_pos (show (13 : Int) < ((zI r).length : Int) from L 13 (by decide)), if_pos (show 0 ≤ rd (zI r) 13 from P 13 (by decide)), if_pos (show rd (zI r) 13 < (M.length : Int) from Q 13 (by decide)), show rd M (rd (zI r) 12) = el M (ordN r 12) from E 12 (by decide), show rd M (rd (zI r) 13) = el M (ordN r 13) from E 13 (by decide)]
  obtain ⟨X6, hX6⟩ : ∃ X, mixI X5 2 7 8 13 (el M (ordN r 12)) (el M (ordN r 13)) = X := ⟨_, rfl⟩
  have hl6 : X6.length = 16 := by rw [← hX6, mixI_length]; exact hl5
  rw [show bourneref03_g.f X5 2 7 8 13 (el M (ordN r 12)) (el M (ordN r 13)) = some (mixI X5 2 7 8 13 (el M (ordN r 12)) (el M (ordN r 13))) from g_eq X5 2 7 8 13 _ _ hl5 (by decide) (by decide) (by decide) (by decide), hX6, Option.bind_some]
  rw [if_pos (show (14 : Int) < ((zI r).length : Int) from L 14 (by decide)), if_pos (show 0 ≤ rd (zI r) 14 from P 14 (by decide)), if_pos (show rd (zI r) 14 < (M.length : Int) from Q 14 (by decide)), if_pos (show (15 : Int) < ((zI r).length : Int) from L 15 (by decide)), if_pos (show 0 ≤ rd (zI r) 15 from P 15 (by decide)), if_pos (show rd (zI r) 15 < (M.length : Int) from Q 15 (by decide)), show rd M (rd (zI r) 14) = el M (ordN r 14) from E 14 (by decide), show rd M (rd (zI r) 15) = el M (ordN r 15) from E 15 (by decide)]
  obtain ⟨X7, hX7⟩ : ∃ X, mixI X6 3 4 9 14 (el M (ordN r 14)) (el M (ordN r 15)) = X := ⟨_, rfl⟩
  have hl7 : X7.length = 16 := by rw [← hX7, mixI_length]; exact hl6
  rw [show bourneref03_g.f X6 3 4 9 14 (el M (ordN r 14)) (el M (ordN r 15)) = some (mixI X6 3 4 9 14 (el M (ordN r 14)) (el M (ordN r 15))) from g_eq X6 3 4 9 14 _ _ hl6 (by decide) (by decide) (by decide) (by decide), hX7, Option.bind_some]
  rw [ew, ← hX7, ← hX6, ← hX5, ← hX4, ← hX3, ← hX2, ← hX1, ← hX0]
  rfl
theorem rounds_eq (H M V : List Int) (hM : M.length = 16) (hV : V.length = 16) (k : Nat) (d : Nat) : ∀ r : Nat, r + d = 10 →
    bourneref03_compress.l1 (k + d + 1) H M (roundsI M V r) r = bourneref03_compress.l2 k H (roundsI M V 10) ([] : List Int) 0 := by
  induction d with
  | zero =>
    intro r hr
    obtain rfl : r = 10 := by omega
    rw [bourneref03_compress.l1, if_neg (by decide)]
  | succ d ih =>
    intro r hr
    rw [← Nat.add_assoc, round_eq H M _ hM (by rw [roundsI_length, hV]) r (by omega) (k + d + 1)]
    exact ih (r + 1) (by omega)
theorem ofInt_nat32 (b : BitVec 32) : BitVec.ofInt 32 ((b.toNat : Nat) : Int) = b := by
  rw [BitVec.ofInt_natCast]; exact BitVec.ofNat_toNat 32 b ▸ (by simp)
theorem wrap32_nat (b : BitVec 32) : IntKind.u32.wrap ((b.toNat : Nat) : Int) = ((b.toNat : Nat) : Int) := by
  have := b.isLt
  rw [IntKind.wrap_u32]; omega
theorem xorI_eq (x y : Int) : xorI x y = (((BitVec.ofInt 32 x ^^^ BitVec.ofInt 32 y).toNat : Nat) : Int) := wrap32_nat _
theorem xorI_assoc (x y z : Int) : xorI (xorI x y) z = xorI x (xorI y z) := by
  rw [xorI_eq (xorI x y) z, xorI_eq x y, xorI_eq x (xorI y z), xorI_eq y z, ofInt_nat32, ofInt_nat32, BitVec.xor_assoc]
theorem xorI_range (x y : Int) : 0 ≤ xorI x y ∧ xorI x y < 4294967296 := by
  rw [xorI_eq]
  have := (BitVec.ofInt 32 x ^^^ BitVec.ofInt 32 y).isLt
  omega
theorem finI_el (H V : List Int) (hH : H.length = 8) (k : Nat) : k ≤ 8 → ∀ i, i < 8 → el (finI H V k) i = if i < k then xorI (el H i) (xorI (el V i) (el V (i + 8))) else el H i := by
  induction k with
  | zero => intro _ i _; rw [finI, if_neg (by omega)]
  | succ k ih =>
    intro hk i hi
    have hl := finI_length H V k
    rw [finI]
    by_cases he : k = i
    · subst he
      rw [el_set_same _ _ _ (by omega), ih (by omega) _ hi, if_neg (by omega), if_pos (by omega)]
    · rw [el_set_ne _ _ _ _ he, ih (by omega) i hi]
      by_cases h2 : i < k
      · rw [if_pos h2, if_pos (by omega)]
      · rw [if_neg h2, if_neg (by omega)]
theorem take_el (X : List Int) (i : Nat) (h : i < X.length) : X.take (i + 1) = X.take i ++ [el X i] := by
  rw [List.take_succ_eq_append_getElem h]; simp [el, h]
theorem out_eq (H V : List Int) (hH : H.length = 8) (hV : V.length = 16) (d : Nat) : ∀ (i k : Nat), i + d = 8 →
    bourneref03_compress.l2 (k + d + 1) H V ((finI H V 8).take i) i = some (finI H V 8) := by
  have hF : (finI H V 8).length = 8 := by rw [finI_length, hH]
  induction d with
  | zero =>
    intro i k hi
    obtain rfl : i = 8 := by omega
    rw [bourneref03_compress.l2, if_neg (by decide), List.take_of_length_le (by omega)]
  | succ d ih =>
    intro i k hi
    have w1 : wrap64 ((i : Int) + 8) = ((i + 8 : Nat) : Int) := by unfold wrap64; omega
    have w2 : wrap64 ((i : Int) + 1) = ((i + 1 : Nat) : Int) := by unfold wrap64; omega
    rw [← Nat.add_assoc, bourneref03_compress.l2, if_pos (by omega), if_pos (by omega), if_pos (by omega), if_pos (by omega), w1, if_pos (by omega), if_pos (by omega), if_pos (by rw [List.length_take]; omega), w2, rd_el, rd_el, rd_el]
    have e : Go.bits .xor .u32 (Go.bits .xor .u32 (el H i) (el V i)) (el V (i + 8)) = el (finI H V 8) i := by
      rw [finI_el H V hH 8 (by omega) i (by omega), if_pos (by omega)]
      exact xorI_assoc _ _ _
    rw [e, ← take_el _ i (by omega)]
    exact ih (i + 1) k (by omega)
/-! the start -/
/-- The words of the block that begins at a byte of the string. -/
def wordsR (s : ByteArray) (at0 : Nat) : List Int := (List.range 16).map fun i => (wv s (at0 + 4 * i) 4 : Int)
theorem wordsR_length (s : ByteArray) (at0 : Nat) : (wordsR s at0).length = 16 := by simp [wordsR]
theorem wordsR_eq (s : ByteArray) (at0 b : Nat) (hb : b = min (at0 + 64) s.size) (ha : at0 ≤ s.size) : wordsR s at0 = wordsK (s.extract at0 b) (s.extract at0 b).size := by
  have hz : (s.extract at0 b).size = b - at0 := by rw [ByteArray.size_extract]; omega
  apply List.ext_getElem
  · rw [wordsR_length, wordsK_length]
  · intro i h1 h2
    have hi : i < 16 := by rw [wordsR_length] at h1; exact h1
    have e1 : (wordsR s at0)[i] = (wv s (at0 + 4 * i) 4 : Int) := by simp [wordsR]
    have e2 : (wordsK (s.extract at0 b) (s.extract at0 b).size)[i] = el (wordsK (s.extract at0 b) (s.extract at0 b).size) i := by
      unfold el; rw [List.getD_eq_getElem?_getD, List.getElem?_eq_getElem h2]; rfl
    refine e1.trans (Eq.trans ?_ e2.symm)
    rw [wordsK_full _ (by omega) i hi]
    by_cases hf : b = at0 + 64
    · rw [wv_extract s at0 b (4 * i) 4 (by omega)]
    · have hbs : b = s.size := by omega
      have hby : ∀ k, byt (s.extract at0 b) k = byt s (at0 + k) := by
        intro k
        by_cases hk : k < b - at0
        · exact byt_extract s at0 b k hk
        · rw [byt_out _ _ (by omega), byt_out _ _ (by omega)]
      have : ∀ j, wv (s.extract at0 b) (4 * i) j = wv s (at0 + 4 * i) j := by
        intro j
        induction j with
        | zero => rfl
        | succ j ih => rw [wv, wv, ih, hby, Nat.add_assoc]
      rw [this]
theorem words_loop (H : List Int) (s : ByteArray) (hs : s.size ≤ 1000000) (at0 : Nat) (ha : at0 ≤ 1000000) (d : Nat) : ∀ (i k : Nat), i + d = 16 →
    bourneref03_compress.l0 (k + d + 5) H s at0 ((wordsR s at0).take i) i = bourneref03_compress.l0 (k + 5) H s at0 (wordsR s at0) 16 := by
  induction d with
  | zero =>
    intro i k hi
    obtain rfl : i = 16 := by omega
    rw [List.take_of_length_le (by rw [wordsR_length]; omega)]
    rfl
  | succ d ih =>
    intro i k hi
    have w1 : wrap64 (4 * (i : Int)) = ((4 * i : Nat) : Int) := by unfold wrap64; omega
    have w2 : wrap64 ((at0 : Int) + ((4 * i : Nat) : Int)) = ((at0 + 4 * i : Nat) : Int) := by unfold wrap64; omega
    have w3 : wrap64 ((i : Int) + 1) = ((i + 1 : Nat) : Int) := by unfold wrap64; omega
    rw [show k + (d + 1) + 5 = (k + d + 5) + 1 by omega, bourneref03_compress.l0, if_pos (by omega), w1, w2, word_eq s hs _ (by omega), Option.bind_some, if_pos (by rw [List.length_take]; omega), w3]
    have e : (wordsR s at0).take i ++ [(wv s (at0 + 4 * i) 4 : Int)] = (wordsR s at0).take (i + 1) := by
      rw [take_el _ i (by rw [wordsR_length]; omega)]
      congr 2
      unfold el wordsR
      rw [List.getD_eq_getElem?_getD, List.getElem?_map, List.getElem?_range (by omega)]
      rfl
    rw [e]
    exact ih (i + 1) k (by omega)
theorem el_append_right (A B : List Int) (i : Nat) (h : A.length ≤ i) : el (A ++ B) i = el B (i - A.length) := by
  unfold el; rw [List.getD_eq_getElem?_getD, List.getD_eq_getElem?_getD, List.getElem?_append_right h]
theorem fin_eq (H M V : List Int) (hH : H.length = 8) (hM : M.length = 16) (hV : V.length = 16) (j : Nat) : bourneref03_compress.j1 (j + 24) H M V = some (finI H (roundsI M V 10) 8) := by
  rw [bourneref03_compress.j1]
  have h2 := rounds_eq H M V hM hV (j + 12) 10 0 (by omega)
  refine h2.trans ?_
  exact out_eq H _ hH (by rw [roundsI_length, hV]) 8 0 (j + 3) (by omega)
/-- The reference's compress is the program's. -/
theorem compress_eq (H : List Int) (hH : H.length = 8) (s : ByteArray) (hs : s.size ≤ 900000) (at0 : Nat) (ha : at0 ≤ s.size) (b : Nat) (hb : b = min (at0 + 64) s.size) (k : Nat) :
    bourneref03_compress.f (k + 60) H s at0 = some (compressI H (s.extract at0 b) b (decide (b = s.size))) := by
  unfold bourneref03_compress.f
  have h1 := words_loop H s (by omega) at0 (by omega) 16 0 (k + 39) (by omega)
  rw [List.take_zero] at h1
  refine h1.trans ?_
  have em : mn (wrap64 ((at0 : Int) + 64)) (s.size : Int) = (b : Int) := by
    rw [wrap64_id (by omega) (by omega)]; unfold mn; split <;> omega
  have e2 : (wrap64 (Int.tdiv (b : Int) 4294967296)) % 4294967296 = (b : Int) / 4294967296 := by
    rw [Int.tdiv_eq_ediv_of_nonneg (by omega), wrap64_id (by omega) (by omega)]; omega
  have e3 : Int.tmod (b : Int) 4294967296 % 4294967296 = (b : Int) := by rw [Int.tmod_eq_emod_of_nonneg (by omega)]; omega
  have hc : bourneref03_constants.f = some firstI := rfl
  obtain ⟨V, hV⟩ : ∃ V, H ++ firstI = V := ⟨_, rfl⟩
  have hl : V.length = 16 := by rw [← hV]; simp [hH, firstI]
  have h14 : el V 14 = 528734635 := by rw [← hV, el_append_right _ _ _ (by omega), hH]; decide +kernel
  obtain ⟨A, hA⟩ : ∃ A, V.set 12 (xorI (el V 12) b) = A := ⟨_, rfl⟩
  have hA13 : el A 13 = el V 13 := by rw [← hA]; exact el_set_ne _ _ _ _ (by decide)
  have hA14 : el A 14 = el V 14 := by rw [← hA]; exact el_set_ne _ _ _ _ (by decide)
  obtain ⟨B, hB⟩ : ∃ B, A.set 13 (xorI (el V 13) ((b : Int) / 4294967296)) = B := ⟨_, rfl⟩
  have hB14 : el B 14 = el V 14 := by rw [← hB, ← hA14]; exact el_set_ne _ _ _ _ (by decide)
  have f1 : V.set (12 : Int).toNat (Go.bits .xor .u32 (rd V 12) (b : Int)) = A := hA
  have f2 : A.set (13 : Int).toNat (Go.bits .xor .u32 (rd A 13) ((b : Int) / 4294967296)) = B := by
    rw [← hB, ← hA13]; rfl
  have hS := startI_length H hH b (decide (b = s.size))
  rw [bourneref03_compress.l0, if_neg (by decide), Option.bind_some, if_pos (by simp [hH]), Option.bind_some, hc, Option.bind_some, if_pos (by simp [hH, firstI]), Option.bind_some, List.nil_append, hV, hl, if_pos (by decide), em, e3, f1, Option.bind_some,
    if_pos (by decide), e2, f2, Option.bind_some]
  unfold compressI
  rw [← wordsR_eq s at0 b hb ha]
  by_cases hlast : b = s.size
  · have f3 : B.set (14 : Int).toNat ((4294967295 - rd B 14) % 4294967296) = startI H b (decide (b = s.size)) := by
      have : rd B 14 = 528734635 := by show el B 14 = _; rw [hB14, h14]
      rw [this, decide_eq_true hlast]
      unfold startI
      simp only [if_true]
      rw [hV, hA, hB, h14]
      congr 1
    rw [if_pos (by omega), if_pos (by decide), f3]
    exact fin_eq H _ _ hH (wordsR_length s at0) hS (k + 19)
  · have f3 : B = startI H b (decide (b = s.size)) := by
      rw [decide_eq_false hlast]
      unfold startI
      simp only [Bool.false_eq_true, if_false]
      rw [hV, hA, hB]
    rw [if_neg (by omega), f3]
    exact fin_eq H _ _ hH (wordsR_length s at0) hS (k + 19)
end Go.Proofs.YtdgejkiackeieaaDoor.RefA
end
section
-- printed by a program of this session's (xprint.py) out of the translation; Lean checks it
namespace Go.Proofs.YtdgejkiackeieaaDoor.PDigestTells
open Go.RowKit Go.Proofs.YtdgejkiackeieaaDoorW.PrintWords Go.Proofs.YtdgejkiackeieaaDoorW.PrintLast Go.Proofs.YtdgejkiackeieaaDoorW.PrintMore
attribute [local go_sem] max2_int min2_int max_two min_two max_three min_three max_four min_four   -- for this text's walks alone
set_option linter.unusedVariables false
set_option linter.unusedSimpArgs false

/-! ### bourneref03_Sum: function 32 -/
mutual
def bourneref03_Sum.l0 : Nat → ByteArray → List Int → Int → Option (ByteArray)
 | 0, _, _, _ => none
 | k + 1, x0, x3, x4 => if x4 < (x0.size : Int) then ((bourneref03_compress.f k x3 x0 x4).bind fun t246 => (bourneref03_Sum.l0 k x0 t246 (wrap64 (x4 + 64)))) else (bourneref03_Sum.l1 k x3 ([] : List Int) 0)
def bourneref03_Sum.l1 : Nat → List Int → List Int → Int → Option (ByteArray)
 | 0, _, _, _ => none
 | k + 1, x3, x5, x6 => if x6 < 8 then (if 0 ≤ x6 then (if x6 < (x3.length : Int) then ((some (([(Int.tmod (rd x3 x6) 256) % 256, ((Int.tdiv (rd x3 x6) 256) % 4294967296) % 256, ((Int.tdiv (rd x3 x6) 65536) % 4294967296) % 256, ((Int.tdiv (rd x3 x6) 16777216) % 4294967296) % 256] : List Int) : List Int)).bind fun y250 => (if x5.length + y250.length < 140737488355328 then (bourneref03_Sum.l1 k x3 (x5 ++ y250) (wrap64 (x6 + 1))) else (none))) else (none)) else (none)) else (some (strOfNums x5))
end
def bourneref03_Sum.f (k : Nat) (a0 : ByteArray) : Option (ByteArray) := (bourneref03_constants.f).bind fun t238 => (if 0 < (t238.length : Int) then ((bourneref03_compress.f k (t238.set (0 : Int).toNat (Go.bits .xor .u32 (rd t238 0) 16842784)) a0 0).bind fun t243 => (bourneref03_Sum.l0 k a0 t243 64)) else (none))
theorem bourneref03_Sum.mono_l : ∀ k, (∀ y0 y1 y2, LeO (bourneref03_Sum.l0 k y0 y1 y2) (bourneref03_Sum.l0 (k + 1) y0 y1 y2)) ∧ (∀ y0 y1 y2, LeO (bourneref03_Sum.l1 k y0 y1 y2) (bourneref03_Sum.l1 (k + 1) y0 y1 y2))
 | 0 => ⟨fun _ _ _ r h => by simp [bourneref03_Sum.l0] at h, fun _ _ _ r h => by simp [bourneref03_Sum.l1] at h⟩
 | k + 1 => by
  obtain ⟨ih0, ih1⟩ := bourneref03_Sum.mono_l k
  refine ⟨?_, ?_⟩
  ·intro y0 y1 y2
   unfold bourneref03_Sum.l0
   repeat' first
   | (with_reducible exact ih0 _ _ _)
   | (with_reducible exact ih1 _ _ _)
   | (with_reducible exact bourneref03_compress.mono _ _ _ _)
   | (with_reducible exact LeO.refl _)
   | (with_reducible exact LeO.none _)
   | (with_reducible refine LeO.ite ?_ ?_)
   | (with_reducible refine LeO.bind ?_ (fun _ => ?_))
   | exact ih0 _ _ _
   | exact ih1 _ _ _
   | exact bourneref03_compress.mono _ _ _ _
   | exact LeO.none _
   | refine LeO.ite ?_ ?_
   | refine LeO.bind ?_ (fun _ => ?_)
  ·intro y0 y1 y2
   unfold bourneref03_Sum.l1
   repeat' first
   | (with_reducible exact ih0 _ _ _)
   | (with_reducible exact ih1 _ _ _)
   | (with_reducible exact bourneref03_compress.mono _ _ _ _)
   | (with_reducible exact LeO.refl _)
   | (with_reducible exact LeO.none _)
   | (with_reducible refine LeO.ite ?_ ?_)
   | (with_reducible refine LeO.bind ?_ (fun _ => ?_))
   | exact ih0 _ _ _
   | exact ih1 _ _ _
   | exact bourneref03_compress.mono _ _ _ _
   | exact LeO.none _
   | refine LeO.ite ?_ ?_
   | refine LeO.bind ?_ (fun _ => ?_)
theorem bourneref03_Sum.mono : ∀ a0 k, LeO (bourneref03_Sum.f k a0) (bourneref03_Sum.f (k + 1) a0) := by
 intro a0 k
 obtain ⟨ih0, ih1⟩ := bourneref03_Sum.mono_l k
 unfold bourneref03_Sum.f
 repeat' first
   | (with_reducible exact ih0 _ _ _)
   | (with_reducible exact ih1 _ _ _)
   | (with_reducible exact bourneref03_compress.mono _ _ _ _)
   | (with_reducible exact LeO.refl _)
   | (with_reducible exact LeO.none _)
   | (with_reducible refine LeO.ite ?_ ?_)
   | (with_reducible refine LeO.bind ?_ (fun _ => ?_))
   | exact ih0 _ _ _
   | exact ih1 _ _ _
   | exact bourneref03_compress.mono _ _ _ _
   | exact LeO.none _
   | refine LeO.ite ?_ ?_
   | refine LeO.bind ?_ (fun _ => ?_)
set_option maxHeartbeats 8000000 in
set_option maxRecDepth 100000 in
theorem bourneref03_Sum.calls (k : Nat) (a0 : ByteArray) (r : ByteArray) (w : World) (h : bourneref03_Sum.f k a0 = some r) :
  Calls Tryd.prog 32 #[.string a0] w fun e w' => e = .returned (.string r) ∧ Below w.heap.size w w' := by
 have HB := Aside0.mk (Below.refl w.heap.size w)
 have H : ((bourneref03_constants.f).bind fun t238 => (if 0 < (t238.length : Int) then ((bourneref03_compress.f k (t238.set (0 : Int).toNat (Go.bits .xor .u32 (rd t238 0) 16842784)) a0 0).bind fun t243 => (bourneref03_Sum.l0 k a0 t243 64)) else (none))) = some r := h
 clear h
 replace H := Option.bind_eq_some_iff.mp H
 obtain ⟨t238, A20, H⟩ := H
 replace H : (if 0 < (t238.length : Int) then ((bourneref03_compress.f k (t238.set (0 : Int).toNat (Go.bits .xor .u32 (rd t238 0) 16842784)) a0 0).bind fun t243 => (bourneref03_Sum.l0 k a0 t243 64)) else (none)) = some r := H
 have A2 := Aside0.mk A20
 clear A20
 by_cases c3 : 0 < (t238.length : Int)
 rotate_left
 ·rw [if_neg c3] at H
  exact absurd H (by simp)
 rw [if_pos c3] at H
 have c3b0 : decide (0 < (t238.length : Int)) = true := decide_eq_true c3
 have c3b1 : decide (0 < t238.length) = true := decide_eq_true (by omega)
 clear c3
 obtain ⟨y242, hy242⟩ : ∃ y_ : List Int, y_ = (t238.set (0 : Int).toNat (Go.bits .xor .u32 (rd t238 0) 16842784)) := ⟨_, rfl⟩
 replace H : ((bourneref03_compress.f k y242 a0 0).bind fun t243 => (bourneref03_Sum.l0 k a0 t243 64)) = some r := by first | (rw [hy242]; with_reducible exact H) | (have H2_ := (Option.bind_some _ _).symm.trans H; rw [hy242]; with_reducible exact H2_) | (have H2_ := (Option.bind_some _ _).symm.trans H; with_reducible exact H2_) | with_reducible exact H | (rw [hy242]; exact H) | exact H
 have Ny242 := Aside0.mk hy242
 clear hy242
 replace H := Option.bind_eq_some_iff.mp H
 obtain ⟨t243, A50, H⟩ := H
 replace H : (bourneref03_Sum.l0 k a0 t243 64) = some r := H
 have A5 := Aside0.mk A50
 clear A50
 have H' := Aside0.mk H
 clear H
 go_enter Tryd.func32, Tryd.ntmps32
 go_wp2_with (first | ((with_reducible refine gate_callee (f := 97) rfl ?_); refine goesL_ (some 8) rfl rfl Tryd.func97 (by kernel_rfl) rfl #[] rfl (by (try simp only [List.map_toArray, List.map_cons, List.map_nil]); first | done | rfl | (simp only [List.length_drop, List.length_take]; rfl)) ?_; (with_reducible refine (bourneref03_constants.calls  t238 _ A2.out).mono ?_); rintro e w6 ⟨v239, rfl, ho0, hb⟩; refine ⟨_, rfl, ?_⟩; have n0_ := Aside0.mk (Kd.R_lower ho0 (below_size (by repeat (first | (with_reducible first | exact HB.out | apply below_alloc | apply pw_below_drewN | apply below_drew1) | exact HB.out)))); have n1_ := Aside0.mk (below_step (by repeat (first | (with_reducible first | exact HB.out | apply below_alloc | apply pw_below_drewN | apply below_drew1) | exact HB.out)) hb); clear HB; have HO240 := n0_; have HB := n1_; clear n0_ n1_; (try clear hb); (try clear hb2); (try clear hk); (try clear hi); (try clear ho0); obtain ⟨Ao7, co7, eo7⟩ := Kd.R_slice HO240.out; subst eo7; have p241 : 0 ≤ (0 : Int) := (by omega); have q241 : 0 < (t238.length : Int) := of_decide_eq_true (by first | (with_reducible assumption) | assumption); obtain ⟨ad241, e241, hx241_0⟩ := Kd.at_int (Kd.R_reads' HO240.out).2.2 0 p241 q241; cases e241; have qi241 : (0 < t238.length) = True := eq_true (by omega); (try rw [show ((0 : Int)).toNat = 0 from rfl] at hx241_0); (try rw [Addr.add_zero'] at hx241_0); replace p241 := eq_true p241; replace q241 := eq_true q241; have p4 : 0 ≤ (0 : Int) := (by omega); have q4 : (0 : Int) < ((t238.length : Int) : Int) := of_decide_eq_true (by first | (with_reducible assumption) | assumption); have qi4 : (0 < t238.length) = True := eq_true (by omega); obtain ⟨go4, co4, eo4, gb4, gl4, cl4, HG4⟩ := Kd.R_form HO240.out (by omega); (first | cases eo4 | (injection eo4 with ea_ en_ ec_; (first | subst ea_ | (injection ea_ with ea_; subst ea_)); subst ec_; clear en_)); have GB4 := Aside0.mk gb4; have GG4 := Aside0.mk HG4; clear gb4 gl4 HG4; (first | simp only [add_plain] at hx241_0 | skip); obtain ⟨hx4_0, hf4_0⟩ := Kd.R_celln 0 HO240.out (0 : Int) p4 q4; (try rw [show ((0 : Int)).toNat = 0 from rfl] at hx4_0); (try simp only [Nat.reduceMul, Nat.zero_mul, Nat.zero_add, Nat.reduceAdd] at hx4_0); (try rw [show ((0 : Int)).toNat = 0 from rfl] at hf4_0); (try simp only [Nat.reduceMul, Nat.zero_mul, Nat.zero_add, Nat.reduceAdd] at hf4_0); replace p4 := eq_true p4; replace q4 := eq_true q4; obtain ⟨hy8_, hz8_⟩ := Kd.R_celln 0 HO240.out (0 : Int) (by omega) (of_decide_eq_true (by first | (with_reducible assumption) | assumption)); (try simp only [Int.reduceToNat, Int.toNat_zero, Int.toNat_ofNat, Nat.reduceMul, Nat.zero_mul, Nat.zero_add] at hy8_ hz8_); (try rw [show ((0 : Int)).toNat = 0 from rfl] at hy8_); (try rw [show ((0 : Int)).toNat = 0 from rfl] at hz8_); have HP8 := Kd.R_putg HO240.out (0 : Int) (Go.bits .xor .u32 (rd t238 0) 16842784)) | ((with_reducible refine gate_store (t := 97) (p := 14) rfl ?_); refine store_event (t := 97) (p := 14) (v := ?vo_w9) (w1 := (w6.setCell ⟨go4, (0 : Int).toNat, none⟩ (.int .u32 (Go.bits .xor .u32 (rd t238 0) 16842784)))) ?hg ?ho ?hn ?hr ?_; (case ho => rfl); (case hg => rfl); (case hn => rfl); (case hr => first | (go_simp; done) | (go_simp; rfl)); intro w9 hw; have hg : w6.grownBy w9 (some go4) := (by rw [hw]; exact HP8.2); have hp_ : Kd.R (Kd.int .u32) 97 w9 w.heap.size (fun _ => True) (.slice (some ⟨go4, 0, none⟩) t238.length co7) y242 := (by rw [hw, Ny242.out]; exact HP8.1); clear HP8; have n0_ := Aside0.mk (hp_); have n1_ := Aside0.mk ((by rw [hw]; exact below_set (HB.out) GB4.out : Below w.heap.size w w9)); clear HO240; clear HB; have HO240 := n0_; have HB := n1_; clear n0_ n1_; clear hg hw hp_) | ((with_reducible refine gate_callee (f := 98) rfl ?_); refine goesL_ (some 17) rfl rfl Tryd.func98 (by kernel_rfl) rfl #[.slice (some ⟨go4, 0, none⟩) y242.length co7, .string a0, .int .i64 0] rfl (by (try simp only [List.map_toArray, List.map_cons, List.map_nil]); first | done | (rw [show y242.length = t238.length from (Kd.R_reads' HO240.out).1.symm] <;> rfl) | rfl | (simp only [List.length_drop, List.length_take]; rfl)) ?_; (with_reducible refine (bourneref03_compress.calls k _ _ y242 a0 0 t243 _ ?side1 ?side2 A5.out).mono ?_); (case side1 => repeat (first | exact (Kd.R_reads' HO240.out).2.2 | (with_reducible refine Kd.C_alloc ?_ _) | (with_reducible refine Kd.C_drewN ?_ _) | (with_reducible refine Kd.C_drew ?_))); (case side2 => rw [show y242.length = t238.length from (Kd.R_reads' HO240.out).1.symm]; exact (Kd.R_reads' HO240.out).2.1); rintro e w10 ⟨v244, rfl, ho0, hb⟩; refine ⟨_, rfl, ?_⟩; have n0_ := Aside0.mk (Kd.R_elder' (by (with_reducible repeat (first | apply Kd.R_alloc | apply Kd.R_drewN | apply Kd.R_drew)); exact HO240.out) (Kd.R_base ho0) hb); have n1_ := Aside0.mk (Kd.R_lower (Kd.R_new' ho0 (Kd.R_lt (by (with_reducible repeat (first | apply Kd.R_alloc | apply Kd.R_drewN | apply Kd.R_drew)); exact HO240.out))) (below_size (by repeat (first | (with_reducible first | exact HB.out | apply below_alloc | apply pw_below_drewN | apply below_drew1) | exact HB.out)))); have n2_ := Aside0.mk (below_step (by repeat (first | (with_reducible first | exact HB.out | apply below_alloc | apply pw_below_drewN | apply below_drew1) | exact HB.out)) hb); clear HO240; clear HB; have HO240 := n0_; have HO245 := n1_; have HB := n2_; clear n0_ n1_ n2_; (try clear hb); (try clear hb2); (try clear hk); (try clear hi); (try clear ho0)))
 go_loopg [3, 4] k (fun kq v3 v4 w' => ∃ (x3_1 : List Int) (x4_1 : Int), v4 = .int .i64 x4_1 ∧ Aside0 (bourneref03_Sum.l0 kq a0 x3_1 x4_1 = some r) ∧ Aside0 (kq ≤ k) ∧ Aside0 (Kd.R (Kd.int .u32) 97 w' w.heap.size (fun _ => True) v3 x3_1) ∧ Aside0 (Below w.heap.size w w'))
 case atStart => exact ⟨(t243), (64), (by first | rfl | (simp; done) | (simp [*]; done)), H', ⟨Nat.le_refl _⟩, ⟨by (with_reducible repeat (first | apply Kd.R_alloc | apply Kd.R_drewN | apply Kd.R_drew)); exact Kd.R_mono HO245.out (fun _ hk => trivial)⟩, ⟨by repeat (first | (with_reducible first | exact HB.out | apply below_alloc | apply pw_below_drewN | apply below_drew1) | exact HB.out)⟩⟩
 case round =>
  clear H'
  try clear p2
  try clear q2
  try clear hx2
  try clear qi2
  try clear c3
  try clear c3b0
  try clear c3b1
  try clear p4
  try clear q4
  try clear hx4
  try clear qi4
  try clear hf4
  try clear c9
  try clear hx241_0
  try clear hx4_0
  try clear p241
  try clear p4
  try clear q241
  try clear q4
  obtain ⟨x3_1, x4_1, rfl, HA, HK1, HO_3, HB⟩ := hrel
  cases gk with
  | zero => exact absurd HA.out (by simp [bourneref03_Sum.l0])
  | succ k1 =>
   have H := HA.out
   clear HA
   simp only [bourneref03_Sum.l0] at H
   by_cases c11 : x4_1 < (a0.size : Int)
   ·rw [if_pos c11] at H
    have c11b0 : decide (x4_1 < (a0.size : Int)) = true := decide_eq_true c11
    clear c11
    replace H := Option.bind_eq_some_iff.mp H
    obtain ⟨t246, A120, H⟩ := H
    replace H : (bourneref03_Sum.l0 k1 a0 t246 (wrap64 (x4_1 + 64))) = some r := H
    have A12 := Aside0.mk A120
    clear A120
    have H' := Aside0.mk H
    clear H
    obtain ⟨Ao13, co13, eo13⟩ := Kd.R_slice HO_3.out
    subst eo13
    go_wp2_with (first | ((with_reducible refine gate_callee (f := 98) rfl ?_); refine goesL_ (some 27) rfl rfl Tryd.func98 (by kernel_rfl) rfl #[.slice Ao13 x3_1.length co13, .string a0, .int .i64 x4_1] rfl (by (try simp only [List.map_toArray, List.map_cons, List.map_nil]); first | done | rfl | (simp only [List.length_drop, List.length_take]; rfl)) ?_; (with_reducible refine (bourneref03_compress.calls k1 _ _ x3_1 a0 x4_1 t246 _ ?side1 ?side2 A12.out).mono ?_); (case side1 => repeat (first | exact (Kd.R_reads' HO_3.out).2.2 | (with_reducible refine Kd.C_alloc ?_ _) | (with_reducible refine Kd.C_drewN ?_ _) | (with_reducible refine Kd.C_drew ?_))); (case side2 => exact (Kd.R_reads' HO_3.out).2.1); rintro e w14 ⟨v247, rfl, ho0, hb⟩; refine ⟨_, rfl, ?_⟩; have n0_ := Aside0.mk (Kd.R_elder' (by (with_reducible repeat (first | apply Kd.R_alloc | apply Kd.R_drewN | apply Kd.R_drew)); exact HO_3.out) (Kd.R_base ho0) hb); have n1_ := Aside0.mk (Kd.R_lower (Kd.R_new' ho0 (Kd.R_lt (by (with_reducible repeat (first | apply Kd.R_alloc | apply Kd.R_drewN | apply Kd.R_drew)); exact HO_3.out))) (below_size (by repeat (first | (with_reducible first | exact HB.out | apply below_alloc | apply pw_below_drewN | apply below_drew1) | exact HB.out)))); have n2_ := Aside0.mk (below_step (by repeat (first | (with_reducible first | exact HB.out | apply below_alloc | apply pw_below_drewN | apply below_drew1) | exact HB.out)) hb); clear HO_3; clear HB; have HO_3 := n0_; have HO248 := n1_; have HB := n2_; clear n0_ n1_ n2_; (try clear hb); (try clear hb2); (try clear hk); (try clear hi); (try clear ho0)))
    go_roundg k1
    case measure => have := HK1.out; omega
    case rel => exact ⟨(t246), (wrap64 (x4_1 + 64)), (by first | rfl | (simp; done) | (simp [*]; done)), H', ⟨by have := HK1.out; omega⟩, ⟨by (with_reducible repeat (first | apply Kd.R_alloc | apply Kd.R_drewN | apply Kd.R_drew)); exact Kd.R_mono HO248.out (fun _ hk => trivial)⟩, ⟨by repeat (first | (with_reducible first | exact HB.out | apply below_alloc | apply pw_below_drewN | apply below_drew1) | exact HB.out)⟩⟩
   rw [if_neg c11] at H
   have c11b0 : decide (x4_1 < (a0.size : Int)) = false := decide_eq_false c11
   clear c11
   have H' := Aside0.mk H
   clear H
   go_wp2
   go_loopg [5, 6] k1 (fun kq v5 v6 w' => ∃ (x5_2 : List Int) (x6_2 : Int), v6 = .int .i64 x6_2 ∧ Aside0 (bourneref03_Sum.l1 kq x3_1 x5_2 x6_2 = some r) ∧ Aside0 (kq ≤ k1) ∧ Aside0 (Kd.R (Kd.int .u32) 97 w' w.heap.size (fun _ => True) u3 x3_1) ∧ Aside0 (Kd.R (Kd.int .u8) 5 w' w.heap.size (fun _ => True) v5 x5_2) ∧ Aside0 (Below w.heap.size w w'))
   case atStart => exact ⟨(([] : List Int)), (0), (by first | rfl | (simp; done) | (simp [*]; done)), H', ⟨Nat.le_refl _⟩, ⟨by (with_reducible repeat (first | apply Kd.R_alloc | apply Kd.R_drewN | apply Kd.R_drew)); exact HO_3.out⟩, ⟨by first | exact Kd.R_nil _ _ _ _ _ | exact Kd.N_nil _ _ _ _ _ | exact Kd.V_nil _ _ _ _ _ | exact Kd.Q_nil _ _ _ _ _ | exact Kd.S_nil _ _ _ _ _⟩, ⟨by repeat (first | (with_reducible first | exact HB.out | apply below_alloc | apply pw_below_drewN | apply below_drew1) | exact HB.out)⟩⟩
   case round =>
    clear H'
    try clear c1
    try clear p2
    try clear q2
    try clear hx2
    try clear qi2
    try clear c3
    try clear c3b0
    try clear c3b1
    try clear p4
    try clear q4
    try clear hx4
    try clear qi4
    try clear hf4
    try clear p6
    try clear c9
    try clear c11
    try clear c11b0
    try clear hx241_0
    try clear hx4_0
    try clear p2
    try clear p241
    try clear p4
    try clear q2
    try clear q241
    try clear q4
    obtain ⟨x5_2, x6_2, rfl, HA, HK2, HO_3, HO_5, HB⟩ := hrel
    cases gk with
    | zero => exact absurd HA.out (by simp [bourneref03_Sum.l1])
    | succ k2 =>
     have H := HA.out
     clear HA
     simp only [bourneref03_Sum.l1] at H
     by_cases c15 : x6_2 < 8
     rotate_left
     ·rw [if_neg c15] at H
      have c15b0 : decide (x6_2 < 8) = false := decide_eq_false c15
      clear c15
      obtain rfl := Option.some.inj H
      have hcv24 := own_string (P := Tryd.prog) Tryd.underlying30 Tryd.underlying5 Tryd.underlying9 (Kd.own_of_R HO_5.out)
      go_wp2
      go_ret
      exact ⟨by first | rfl | (simp [errW_none, errW_some] <;> rfl) | (simp [*, errW_none, errW_some] <;> rfl), by repeat (first | (with_reducible first | exact HB.out | apply below_alloc | apply pw_below_drewN | apply below_drew1) | exact HB.out)⟩
     rw [if_pos c15] at H
     have c15b0 : decide (x6_2 < 8) = true := decide_eq_true c15
     clear c15
     by_cases c16 : 0 ≤ x6_2
     rotate_left
     ·rw [if_neg c16] at H
      exact absurd H (by simp)
     rw [if_pos c16] at H
     have c16b0 : decide (0 ≤ x6_2) = true := decide_eq_true c16
     clear c16
     by_cases c17 : x6_2 < (x3_1.length : Int)
     rotate_left
     ·rw [if_neg c17] at H
      exact absurd H (by simp)
     rw [if_pos c17] at H
     have c17b0 : decide (x6_2 < (x3_1.length : Int)) = true := decide_eq_true c17
     clear c17
     obtain ⟨y250, hy250⟩ : ∃ y_ : List Int, y_ = (([(Int.tmod (rd x3_1 x6_2) 256) % 256, ((Int.tdiv (rd x3_1 x6_2) 256) % 4294967296) % 256, ((Int.tdiv (rd x3_1 x6_2) 65536) % 4294967296) % 256, ((Int.tdiv (rd x3_1 x6_2) 16777216) % 4294967296) % 256] : List Int)) := ⟨_, rfl⟩
     replace H : (if x5_2.length + y250.length < 140737488355328 then (bourneref03_Sum.l1 k2 x3_1 (x5_2 ++ y250) (wrap64 (x6_2 + 1))) else (none)) = some r := by first | (rw [hy250]; with_reducible exact H) | (have H2_ := (Option.bind_some _ _).symm.trans H; rw [hy250]; with_reducible exact H2_) | (have H2_ := (Option.bind_some _ _).symm.trans H; with_reducible exact H2_) | with_reducible exact H | (rw [hy250]; exact H) | exact H
     have Ny250 := Aside0.mk hy250
     clear hy250
     by_cases c18 : x5_2.length + y250.length < 140737488355328
     rotate_left
     ·rw [if_neg c18] at H
      exact absurd H (by simp)
     rw [if_pos c18] at H
     have LMc18 := Aside0.mk c18
     clear c18
     obtain ⟨y253, hy253⟩ : ∃ y_ : List Int, y_ = (x5_2 ++ y250) := ⟨_, rfl⟩
     replace H : (bourneref03_Sum.l1 k2 x3_1 y253 (wrap64 (x6_2 + 1))) = some r := by first | (rw [hy253]; with_reducible exact H) | (have H2_ := (Option.bind_some _ _).symm.trans H; rw [hy253]; with_reducible exact H2_) | (have H2_ := (Option.bind_some _ _).symm.trans H; with_reducible exact H2_) | with_reducible exact H | (rw [hy253]; exact H) | exact H
     have Ny253 := Aside0.mk hy253
     clear hy253
     have H' := Aside0.mk H
     clear H
     obtain ⟨Ao19, co19, eo19⟩ := Kd.R_slice HO_3.out
     subst eo19
     have p249 : 0 ≤ (x6_2 : Int) := of_decide_eq_true (by first | (with_reducible assumption) | assumption)
     have q249 : x6_2 < (x3_1.length : Int) := of_decide_eq_true (by first | (with_reducible assumption) | assumption)
     obtain ⟨ad249, e249, hx249_0⟩ := Kd.at_int (Kd.R_reads' HO_3.out).2.2 x6_2 p249 q249
     cases e249
     replace p249 := eq_true p249
     replace q249 := eq_true q249
     go_wp2_with (first | ((with_reducible refine gate_dst (N := 51) rfl ?_); refine Kd.R_lit (Kd.int .u8) _ 5 ?hg (N := 51) ?hd (xs := ([(Int.tmod (rd x3_1 x6_2) 256) % 256, ((Int.tdiv (rd x3_1 x6_2) 256) % 4294967296) % 256, ((Int.tdiv (rd x3_1 x6_2) 65536) % 4294967296) % 256, ((Int.tdiv (rd x3_1 x6_2) 16777216) % 4294967296) % 256] : List Int)) (inner := [.int .u8 ((Int.tmod (rd x3_1 x6_2) 256) % 256), .int .u8 (((Int.tdiv (rd x3_1 x6_2) 256) % 4294967296) % 256), .int .u8 (((Int.tdiv (rd x3_1 x6_2) 65536) % 4294967296) % 256), .int .u8 (((Int.tdiv (rd x3_1 x6_2) 16777216) % 4294967296) % 256)]) (ok := fun _ => True) (okp := fun _ => True) ?hr ?hp (fun _ hk => hk) trivial (Below.refl _ _) (Nat.le_refl _) (by simp) ?_; (case hd => rfl); (case hg => rfl); (case hr => first | (go_simp; done) | (go_simp; rfl)); (case hp => exact (Reps.one (show Kd.M (Kd.int .u8) _ _ _ ((Int.tmod (rd x3_1 x6_2) 256) % 256) [.int .u8 ((Int.tmod (rd x3_1 x6_2) 256) % 256)] from rfl) (Reps.one (show Kd.M (Kd.int .u8) _ _ _ (((Int.tdiv (rd x3_1 x6_2) 256) % 4294967296) % 256) [.int .u8 (((Int.tdiv (rd x3_1 x6_2) 256) % 4294967296) % 256)] from rfl) (Reps.one (show Kd.M (Kd.int .u8) _ _ _ (((Int.tdiv (rd x3_1 x6_2) 65536) % 4294967296) % 256) [.int .u8 (((Int.tdiv (rd x3_1 x6_2) 65536) % 4294967296) % 256)] from rfl) (Reps.one (show Kd.M (Kd.int .u8) _ _ _ (((Int.tdiv (rd x3_1 x6_2) 16777216) % 4294967296) % 256) [.int .u8 (((Int.tdiv (rd x3_1 x6_2) 16777216) % 4294967296) % 256)] from rfl) (Reps.none _ _)))))); intro v251 w20 ho21 hb hg_ hnew_; clear hg_ hnew_; (first | rw [← Ny250.out] at ho21 | (simp only [Int.reduceToNat] at ho21; rw [← Ny250.out] at ho21)); have n0_ := Aside0.mk (Kd.R_below (by (with_reducible repeat (first | apply Kd.R_alloc | apply Kd.R_drewN | apply Kd.R_drew)); exact HO_3.out) hb); have n1_ := Aside0.mk (Kd.R_elder' (by (with_reducible repeat (first | apply Kd.R_alloc | apply Kd.R_drewN | apply Kd.R_drew)); exact HO_5.out) (Kd.R_base ho21) hb); have n2_ := Aside0.mk (Kd.R_lower (Kd.R_new' ho21 (Kd.R_lt (by (with_reducible repeat (first | apply Kd.R_alloc | apply Kd.R_drewN | apply Kd.R_drew)); exact HO_5.out))) (below_size (by repeat (first | (with_reducible first | exact HB.out | apply below_alloc | apply pw_below_drewN | apply below_drew1) | exact HB.out)))); have n3_ := Aside0.mk (below_step (by repeat (first | (with_reducible first | exact HB.out | apply below_alloc | apply pw_below_drewN | apply below_drew1) | exact HB.out)) hb); clear HO_3; clear HO_5; clear HB; have HO_3 := n0_; have HO_5 := n1_; have HO252 := n2_; have HB := n3_; clear n0_ n1_ n2_ n3_; clear hb ho21; obtain ⟨Ao23, co23, eo23⟩ := Kd.R_slice HO252.out; subst eo23) | ((with_reducible refine gate_builtin (b := .append) (xs := #[.tmp 36, .tmp 51]) rfl ?_); at_builtin; refine Kd.R_append_rows (Kd.int .u8) (w0 := w) w.heap.size rfl (.tmp 36) (.tmp 51) 30 5 (.int .u8 0) 1 rfl Tryd.underlying30 info5 rfl (by decide) (by omega) u5 x5_2 y250 _ _ _ (fun k_ => some k_ ≠ (.slice Ao23 y250.length co23 : Value).ownBlock) (fun _ => False) rfl rfl ?aO ?aR (fun _ _ h => h) (fun _ h => h.elim) ?aF ?aB ?aS ?aL ?_; (case aR => repeat (first | exact (Kd.R_reads' HO252.out).2.2 | (with_reducible refine Kd.C_alloc ?_ _) | (with_reducible refine Kd.C_drewN ?_ _) | (with_reducible refine Kd.C_drew ?_))); (case aB => exact (by repeat (first | (with_reducible first | exact HB.out | apply below_alloc | apply pw_below_drewN | apply below_drew1) | exact HB.out))); (case aF => exact (fun k_ hk => Kd.fresh' (Kd.R_lt (by (with_reducible repeat (first | apply Kd.R_alloc | apply Kd.R_drewN | apply Kd.R_drew)); exact HO252.out)) k_ hk)); (case aO => exact (by (with_reducible repeat (first | apply Kd.R_alloc | apply Kd.R_drewN | apply Kd.R_drew)); exact Kd.R_mono HO_5.out (fun _ hk => hk.2))); (case aS => exact (below_size (by repeat (first | (with_reducible first | exact HB.out | apply below_alloc | apply pw_below_drewN | apply below_drew1) | exact HB.out)))); (case aL => have := LMc18.out; omega); intro v254 w22 ho hb hg hat; rw [← Ny253.out] at ho; have n0_ := Aside0.mk (Kd.R_over' (by (with_reducible repeat (first | apply Kd.R_alloc | apply Kd.R_drewN | apply Kd.R_drew)); exact HO_3.out) (Kd.R_typed (by (with_reducible repeat (first | apply Kd.R_alloc | apply Kd.R_drewN | apply Kd.R_drew)); exact HO_5.out)) (by decide) hg); have n1_ := Aside0.mk (Kd.R_after (ok := (fun _ => True)) (by (with_reducible repeat (first | apply Kd.R_alloc | apply Kd.R_drewN | apply Kd.R_drew)); exact HO252.out) hg hat); have n2_ := Aside0.mk (hb); have n3_ := Aside0.mk (ho); clear HO_3; clear HO252; clear HB; clear HO_5; have HO_3 := n0_; have HO252 := n1_; have HB := n2_; have HO255 := n3_; clear n0_ n1_ n2_ n3_; clear ho hb hg hat))
     go_roundg k2
     case measure => have := HK1.out; have := HK2.out; omega
     case rel => exact ⟨(y253), (wrap64 (x6_2 + 1)), (by first | rfl | (simp; done) | (simp [*]; done)), H', ⟨by have := HK1.out; have := HK2.out; omega⟩, ⟨by (with_reducible repeat (first | apply Kd.R_alloc | apply Kd.R_drewN | apply Kd.R_drew)); exact HO_3.out⟩, ⟨by (with_reducible repeat (first | apply Kd.R_alloc | apply Kd.R_drewN | apply Kd.R_drew)); exact Kd.R_mono HO255.out (fun _ hk => trivial)⟩, ⟨by repeat (first | (with_reducible first | exact HB.out | apply below_alloc | apply pw_below_drewN | apply below_drew1) | exact HB.out)⟩⟩

/-! ### bourneref03_Short: function 34 -/
def bourneref03_Short.l0 : Nat → ByteArray → Int → Int → Option (Int)
 | 0, _, _, _ => none
 | k + 1, x3, x4, x5 => if x5 < 7 then (if 0 ≤ x5 then (if x5 < (x3.size : Int) then (bourneref03_Short.l0 k x3 (wrap64 ((wrap64 (x4 * 256)) + (wrap64 (bt x3 x5)))) (wrap64 (x5 + 1))) else (none)) else (none)) else (if 7 < (x3.size : Int) then (some (wrap64 ((wrap64 (x4 * 16)) + (wrap64 (Int.tdiv (wrap64 (bt x3 7)) 16))))) else (none))
def bourneref03_Short.f (k : Nat) (a0 : ByteArray) : Option (Int) := (bourneref03_Sum.f k a0).bind fun t256 => (bourneref03_Short.l0 k t256 0 0)
theorem bourneref03_Short.mono_l : ∀ k, (∀ y0 y1 y2, LeO (bourneref03_Short.l0 k y0 y1 y2) (bourneref03_Short.l0 (k + 1) y0 y1 y2))
 | 0 => fun _ _ _ r h => by simp [bourneref03_Short.l0] at h
 | k + 1 => by
  have ih0 := bourneref03_Short.mono_l k
  ·intro y0 y1 y2
   unfold bourneref03_Short.l0
   repeat' first
   | (with_reducible exact ih0 _ _ _)
   | (with_reducible exact bourneref03_Sum.mono _ _)
   | (with_reducible exact LeO.refl _)
   | (with_reducible exact LeO.none _)
   | (with_reducible refine LeO.ite ?_ ?_)
   | (with_reducible refine LeO.bind ?_ (fun _ => ?_))
   | exact ih0 _ _ _
   | exact bourneref03_Sum.mono _ _
   | exact LeO.none _
   | refine LeO.ite ?_ ?_
   | refine LeO.bind ?_ (fun _ => ?_)
theorem bourneref03_Short.mono : ∀ a0 k, LeO (bourneref03_Short.f k a0) (bourneref03_Short.f (k + 1) a0) := by
 intro a0 k
 have ih0 := bourneref03_Short.mono_l k
 unfold bourneref03_Short.f
 repeat' first
   | (with_reducible exact ih0 _ _ _)
   | (with_reducible exact bourneref03_Sum.mono _ _)
   | (with_reducible exact LeO.refl _)
   | (with_reducible exact LeO.none _)
   | (with_reducible refine LeO.ite ?_ ?_)
   | (with_reducible refine LeO.bind ?_ (fun _ => ?_))
   | exact ih0 _ _ _
   | exact bourneref03_Sum.mono _ _
   | exact LeO.none _
   | refine LeO.ite ?_ ?_
   | refine LeO.bind ?_ (fun _ => ?_)
set_option maxHeartbeats 8000000 in
set_option maxRecDepth 100000 in
theorem bourneref03_Short.calls (k : Nat) (a0 : ByteArray) (r : Int) (w : World) (h : bourneref03_Short.f k a0 = some r) :
  Calls Tryd.prog 34 #[.string a0] w fun e w' => e = .returned (.int .i64 r) ∧ Below w.heap.size w w' := by
 have HB := Aside0.mk (Below.refl w.heap.size w)
 have H : ((bourneref03_Sum.f k a0).bind fun t256 => (bourneref03_Short.l0 k t256 0 0)) = some r := h
 clear h
 replace H := Option.bind_eq_some_iff.mp H
 obtain ⟨t256, A20, H⟩ := H
 replace H : (bourneref03_Short.l0 k t256 0 0) = some r := H
 have A2 := Aside0.mk A20
 clear A20
 have H' := Aside0.mk H
 clear H
 go_enter Tryd.func34, Tryd.ntmps34
 go_wp2_with (first | ((with_reducible refine gate_callee (f := 32) rfl ?_); refine goesL_ (some 7) rfl rfl Tryd.func32 (by kernel_rfl) rfl #[.string a0] rfl (by (try simp only [List.map_toArray, List.map_cons, List.map_nil]); first | done | rfl | (simp only [List.length_drop, List.length_take]; rfl)) ?_; (with_reducible refine (bourneref03_Sum.calls k a0 t256 _ A2.out).mono ?_); rintro e w3 ⟨rfl, hb⟩; refine ⟨_, rfl, ?_⟩; have n0_ := Aside0.mk (below_step (by repeat (first | (with_reducible first | exact HB.out | apply below_alloc | apply pw_below_drewN | apply below_drew1) | exact HB.out)) hb); clear HB; have HB := n0_; clear n0_; (try clear hb); (try clear hb2); (try clear hk); (try clear hi)))
 go_loopg [4, 5] k (fun kq v4 v5 w' => ∃ (x4_1 : Int) (x5_1 : Int), v4 = .int .i64 x4_1 ∧ v5 = .int .i64 x5_1 ∧ Aside0 (bourneref03_Short.l0 kq t256 x4_1 x5_1 = some r) ∧ Aside0 (kq ≤ k) ∧ Aside0 (Below w.heap.size w w'))
 case atStart => exact ⟨(0), (0), (by first | rfl | (simp; done) | (simp [*]; done)), (by first | rfl | (simp; done) | (simp [*]; done)), H', ⟨Nat.le_refl _⟩, ⟨by repeat (first | (with_reducible first | exact HB.out | apply below_alloc | apply pw_below_drewN | apply below_drew1) | exact HB.out)⟩⟩
 case round =>
  clear H'
  try clear p2
  try clear c3
  obtain ⟨x4_1, x5_1, rfl, rfl, HA, HK1, HB⟩ := hrel
  cases gk with
  | zero => exact absurd HA.out (by simp [bourneref03_Short.l0])
  | succ k1 =>
   have H := HA.out
   clear HA
   simp only [bourneref03_Short.l0] at H
   by_cases c4 : x5_1 < 7
   rotate_left
   ·rw [if_neg c4] at H
    have c4b0 : decide (x5_1 < 7) = false := decide_eq_false c4
    clear c4
    by_cases c8 : 7 < (t256.size : Int)
    ·rw [if_pos c8] at H
     have c8b0 : decide (7 < (t256.size : Int)) = true := decide_eq_true c8
     have c8b1 : decide (7 < t256.size) = true := decide_eq_true (by omega)
     clear c8
     obtain rfl := Option.some.inj H
     have p9 : 0 ≤ (7 : Int) := (by omega)
     have q9 : 7 < t256.size := (by have : (7 : Int) < (t256.size : Int) := of_decide_eq_true (by first | (with_reducible assumption) | assumption); omega)
     have hx9 : ∀ h : 7 < t256.size, ((t256[7]'h).toNat : Int) = bt t256 7 := bt_at t256 7
     clear p9
     have qi9 : (7 < (t256.size : Int)) = True := eq_true (of_decide_eq_true (by first | (with_reducible assumption) | assumption))
     replace q9 := eq_true q9
     go_wp2
     go_ret
     exact ⟨by first | rfl | (simp [errW_none, errW_some] <;> rfl) | (simp [*, errW_none, errW_some] <;> rfl), by repeat (first | (with_reducible first | exact HB.out | apply below_alloc | apply pw_below_drewN | apply below_drew1) | exact HB.out)⟩
    ·rw [if_neg c8] at H
     exact absurd H (by simp)
   rw [if_pos c4] at H
   have c4b0 : decide (x5_1 < 7) = true := decide_eq_true c4
   clear c4
   by_cases c5 : 0 ≤ x5_1
   rotate_left
   ·rw [if_neg c5] at H
    exact absurd H (by simp)
   rw [if_pos c5] at H
   have c5b0 : decide (0 ≤ x5_1) = true := decide_eq_true c5
   clear c5
   by_cases c6 : x5_1 < (t256.size : Int)
   rotate_left
   ·rw [if_neg c6] at H
    exact absurd H (by simp)
   rw [if_pos c6] at H
   have c6b0 : decide (x5_1 < (t256.size : Int)) = true := decide_eq_true c6
   clear c6
   have H' := Aside0.mk H
   clear H
   have p7 : 0 ≤ (x5_1 : Int) := of_decide_eq_true (by first | (with_reducible assumption) | assumption)
   have q7 : x5_1 < (t256.size : Int) := of_decide_eq_true (by first | (with_reducible assumption) | assumption)
   have hx7 := bt_at t256 x5_1
   replace p7 := eq_true p7
   replace q7 := eq_true q7
   go_wp2
   go_roundg k1
   case measure => have := HK1.out; omega
   case rel => exact ⟨(wrap64 ((wrap64 (x4_1 * 256)) + (wrap64 (bt t256 x5_1)))), (wrap64 (x5_1 + 1)), (by first | rfl | (simp; done) | (simp [*]; done)), (by first | rfl | (simp; done) | (simp [*]; done)), H', ⟨by have := HK1.out; omega⟩, ⟨by repeat (first | (with_reducible first | exact HB.out | apply below_alloc | apply pw_below_drewN | apply below_drew1) | exact HB.out)⟩⟩

/-! ### bourneref03_Crc: function 35 -/
mutual
def bourneref03_Crc.l0 : Nat → ByteArray → Int → Int → Option (Int)
 | 0, _, _, _ => none
 | k + 1, x0, x3, x4 => if x4 < (x0.size : Int) then (if 0 ≤ x4 then (bourneref03_Crc.l1 k x0 (Go.bits .xor .i64 x3 (wrap64 (bt x0 x4))) x4 0) else (none)) else (some (Go.bits .xor .i64 x3 65535))
def bourneref03_Crc.l1 : Nat → ByteArray → Int → Int → Int → Option (Int)
 | 0, _, _, _, _ => none
 | k + 1, x0, x3, x4, x5 => if x5 < 8 then (if (Int.tmod x3 2) = 1 then (bourneref03_Crc.l1 k x0 (Go.bits .xor .i64 (wrap64 (Int.tdiv x3 2)) 33800) x4 (wrap64 (x5 + 1))) else (bourneref03_Crc.l1 k x0 (wrap64 (Int.tdiv x3 2)) x4 (wrap64 (x5 + 1)))) else (bourneref03_Crc.l0 k x0 x3 (wrap64 (x4 + 1)))
end
def bourneref03_Crc.f (k : Nat) (a0 : ByteArray) : Option (Int) := bourneref03_Crc.l0 k a0 65535 0
theorem bourneref03_Crc.mono_l : ∀ k, (∀ y0 y1 y2, LeO (bourneref03_Crc.l0 k y0 y1 y2) (bourneref03_Crc.l0 (k + 1) y0 y1 y2)) ∧ (∀ y0 y1 y2 y3, LeO (bourneref03_Crc.l1 k y0 y1 y2 y3) (bourneref03_Crc.l1 (k + 1) y0 y1 y2 y3))
 | 0 => ⟨fun _ _ _ r h => by simp [bourneref03_Crc.l0] at h, fun _ _ _ _ r h => by simp [bourneref03_Crc.l1] at h⟩
 | k + 1 => by
  obtain ⟨ih0, ih1⟩ := bourneref03_Crc.mono_l k
  refine ⟨?_, ?_⟩
  ·intro y0 y1 y2
   unfold bourneref03_Crc.l0
   repeat' first
   | (with_reducible exact ih0 _ _ _)
   | (with_reducible exact ih1 _ _ _ _)
   | (with_reducible exact LeO.refl _)
   | (with_reducible exact LeO.none _)
   | (with_reducible refine LeO.ite ?_ ?_)
   | (with_reducible refine LeO.bind ?_ (fun _ => ?_))
   | exact ih0 _ _ _
   | exact ih1 _ _ _ _
   | exact LeO.none _
   | refine LeO.ite ?_ ?_
   | refine LeO.bind ?_ (fun _ => ?_)
  ·intro y0 y1 y2 y3
   unfold bourneref03_Crc.l1
   repeat' first
   | (with_reducible exact ih0 _ _ _)
   | (with_reducible exact ih1 _ _ _ _)
   | (with_reducible exact LeO.refl _)
   | (with_reducible exact LeO.none _)
   | (with_reducible refine LeO.ite ?_ ?_)
   | (with_reducible refine LeO.bind ?_ (fun _ => ?_))
   | exact ih0 _ _ _
   | exact ih1 _ _ _ _
   | exact LeO.none _
   | refine LeO.ite ?_ ?_
   | refine LeO.bind ?_ (fun _ => ?_)
theorem bourneref03_Crc.mono : ∀ a0 k, LeO (bourneref03_Crc.f k a0) (bourneref03_Crc.f (k + 1) a0) := by
 intro a0 k
 obtain ⟨ih0, ih1⟩ := bourneref03_Crc.mono_l k
 unfold bourneref03_Crc.f
 repeat' first
   | (with_reducible exact ih0 _ _ _)
   | (with_reducible exact ih1 _ _ _ _)
   | (with_reducible exact LeO.refl _)
   | (with_reducible exact LeO.none _)
   | (with_reducible refine LeO.ite ?_ ?_)
   | (with_reducible refine LeO.bind ?_ (fun _ => ?_))
   | exact ih0 _ _ _
   | exact ih1 _ _ _ _
   | exact LeO.none _
   | refine LeO.ite ?_ ?_
   | refine LeO.bind ?_ (fun _ => ?_)
set_option maxHeartbeats 8000000 in
set_option maxRecDepth 100000 in
theorem bourneref03_Crc.calls (k : Nat) (a0 : ByteArray) (r : Int) (w : World) (h : bourneref03_Crc.f k a0 = some r) :
  Calls Tryd.prog 35 #[.string a0] w fun e w' => e = .returned (.int .i64 r) ∧ Drawn0 w w' := by
 have H : (bourneref03_Crc.l0 k a0 65535 0) = some r := h
 clear h
 have H' := Aside0.mk H
 clear H
 go_enter Tryd.func35, Tryd.ntmps35
 go_wp2
 go_loopg [3, 4] k (fun kq v3 v4 w' => ∃ (x3_1 : Int) (x4_1 : Int), v3 = .int .i64 x3_1 ∧ v4 = .int .i64 x4_1 ∧ Aside0 (bourneref03_Crc.l0 kq a0 x3_1 x4_1 = some r) ∧ Aside0 (kq ≤ k) ∧ Drawn0 w w')
 case atStart => exact ⟨(65535), (0), (by first | rfl | (simp; done) | (simp [*]; done)), (by first | rfl | (simp; done) | (simp [*]; done)), H', ⟨Nat.le_refl _⟩, by repeat (first | exact Drawn0.refl _ | apply Drawn0.step)⟩
 case round =>
  clear H'
  obtain ⟨x3_1, x4_1, rfl, rfl, HA, HK1, ⟨m1, rfl⟩⟩ := hrel
  cases gk with
  | zero => exact absurd HA.out (by simp [bourneref03_Crc.l0])
  | succ k1 =>
   have H := HA.out
   clear HA
   simp only [bourneref03_Crc.l0] at H
   by_cases c2 : x4_1 < (a0.size : Int)
   rotate_left
   ·rw [if_neg c2] at H
    have c2b0 : decide (x4_1 < (a0.size : Int)) = false := decide_eq_false c2
    clear c2
    obtain rfl := Option.some.inj H
    go_wp2
    go_ret
    exact ⟨by first | rfl | (simp; done) | (simp [*]; done), by repeat (first | exact Drawn0.refl _ | apply Drawn0.step)⟩
   rw [if_pos c2] at H
   have c2b0 : decide (x4_1 < (a0.size : Int)) = true := decide_eq_true c2
   clear c2
   by_cases c3 : 0 ≤ x4_1
   rotate_left
   ·rw [if_neg c3] at H
    exact absurd H (by simp)
   rw [if_pos c3] at H
   have c3b0 : decide (0 ≤ x4_1) = true := decide_eq_true c3
   clear c3
   have H' := Aside0.mk H
   clear H
   have p4 : 0 ≤ (x4_1 : Int) := of_decide_eq_true (by first | (with_reducible assumption) | assumption)
   have q4 : x4_1 < (a0.size : Int) := of_decide_eq_true (by first | (with_reducible assumption) | assumption)
   have hx4 := bt_at a0 x4_1
   replace p4 := eq_true p4
   replace q4 := eq_true q4
   go_wp2
   go_loopg [3, 5] k1 (fun kq v3 v5 w' => ∃ (x3_2 : Int) (x5_2 : Int), v3 = .int .i64 x3_2 ∧ v5 = .int .i64 x5_2 ∧ Aside0 (bourneref03_Crc.l1 kq a0 x3_2 x4_1 x5_2 = some r) ∧ Aside0 (kq ≤ k1) ∧ Drawn0 w w')
   case atStart => exact ⟨(Go.bits .xor .i64 x3_1 (wrap64 (bt a0 x4_1))), (0), (by first | rfl | (simp; done) | (simp [*]; done)), (by first | rfl | (simp; done) | (simp [*]; done)), H', ⟨Nat.le_refl _⟩, by repeat (first | exact Drawn0.refl _ | apply Drawn0.step)⟩
   case round =>
    clear H'
    try clear c2
    try clear c2b0
    try clear p2
    try clear c3
    try clear c3b0
    try clear p4
    try clear q4
    try clear hx4
    try clear p4
    try clear q4
    obtain ⟨x3_2, x5_2, rfl, rfl, HA, HK2, ⟨m2, rfl⟩⟩ := hrel
    cases gk with
    | zero => exact absurd HA.out (by simp [bourneref03_Crc.l1])
    | succ k2 =>
     have H := HA.out
     clear HA
     simp only [bourneref03_Crc.l1] at H
     by_cases c5 : x5_2 < 8
     rotate_left
     ·rw [if_neg c5] at H
      have c5b0 : decide (x5_2 < 8) = false := decide_eq_false c5
      clear c5
      have H' := Aside0.mk H
      clear H
      go_wp2
      go_roundg k2
      case measure => have := HK1.out; have := HK2.out; omega
      case rel => exact ⟨(x3_2), (wrap64 (x4_1 + 1)), (by first | rfl | (simp; done) | (simp [*]; done)), (by first | rfl | (simp; done) | (simp [*]; done)), H', ⟨by have := HK1.out; have := HK2.out; omega⟩, by repeat (first | exact Drawn0.refl _ | apply Drawn0.step)⟩
     rw [if_pos c5] at H
     have c5b0 : decide (x5_2 < 8) = true := decide_eq_true c5
     clear c5
     by_cases c6 : (Int.tmod x3_2 2) = 1
     rotate_left
     ·rw [if_neg c6] at H
      have c6b0 : ((Int.tmod x3_2 2) == 1) = false := beq_eq_false_iff_ne.mpr c6
      have c6b1 : ((Int.tmod x3_2 2) != 1) = true := bne_iff_ne.mpr c6
      have H' := Aside0.mk H
      clear H
      go_wp2
      go_roundg k2
      case measure => have := HK1.out; have := HK2.out; omega
      case rel => exact ⟨(wrap64 (Int.tdiv x3_2 2)), (wrap64 (x5_2 + 1)), (by first | rfl | (simp; done) | (simp [*]; done)), (by first | rfl | (simp; done) | (simp [*]; done)), H', ⟨by have := HK1.out; have := HK2.out; omega⟩, by repeat (first | exact Drawn0.refl _ | apply Drawn0.step)⟩
     rw [if_pos c6] at H
     have c6b0 : ((Int.tmod x3_2 2) == 1) = true := beq_iff_eq.mpr c6
     have c6b1 : ((Int.tmod x3_2 2) != 1) = false := bne_eq_false_iff_eq.mpr c6
     clear c6
     have H' := Aside0.mk H
     clear H
     go_wp2
     go_roundg k2
     case measure => have := HK1.out; have := HK2.out; omega
     case rel => exact ⟨(Go.bits .xor .i64 (wrap64 (Int.tdiv x3_2 2)) 33800), (wrap64 (x5_2 + 1)), (by first | rfl | (simp; done) | (simp [*]; done)), (by first | rfl | (simp; done) | (simp [*]; done)), H', ⟨by have := HK1.out; have := HK2.out; omega⟩, by repeat (first | exact Drawn0.refl _ | apply Drawn0.step)⟩

/-! ### bourneref03_digit: function 99 -/
def bourneref03_digit.f (a0 : Int) : Option (Int) := if a0 < 10 then (some ((wrap64 (48 + a0)) % 256)) else (some ((wrap64 ((wrap64 (97 + a0)) - 10)) % 256))
set_option maxHeartbeats 8000000 in
set_option maxRecDepth 100000 in
theorem bourneref03_digit.calls (a0 : Int) (r : Int) (w : World) (h : bourneref03_digit.f a0 = some r) :
  Calls Tryd.prog 99 #[.int .i64 a0] w fun e w' => e = .returned (.int .u8 r) ∧ Drawn0 w w' := by
 have H : (if a0 < 10 then (some ((wrap64 (48 + a0)) % 256)) else (some ((wrap64 ((wrap64 (97 + a0)) - 10)) % 256))) = some r := h
 clear h
 by_cases c2 : a0 < 10
 ·rw [if_pos c2] at H
  have c2b0 : decide (a0 < 10) = true := decide_eq_true c2
  clear c2
  obtain rfl := Option.some.inj H
  go_enter Tryd.func99, Tryd.ntmps99
  go_wp2
  go_ret
  exact ⟨by first | rfl | (simp; done) | (simp [*]; done), by repeat (first | exact Drawn0.refl _ | apply Drawn0.step)⟩
 rw [if_neg c2] at H
 have c2b0 : decide (a0 < 10) = false := decide_eq_false c2
 clear c2
 obtain rfl := Option.some.inj H
 go_enter Tryd.func99, Tryd.ntmps99
 go_wp2
 go_ret
 exact ⟨by first | rfl | (simp; done) | (simp [*]; done), by repeat (first | exact Drawn0.refl _ | apply Drawn0.step)⟩

/-! ### bourneref03_Hex: function 36 -/
def bourneref03_Hex.l0 : Nat → ByteArray → List Int → Int → Option (ByteArray)
 | 0, _, _, _ => none
 | k + 1, x0, x3, x4 => if x4 < (x0.size : Int) then (if 0 ≤ x4 then ((bourneref03_digit.f (wrap64 (Int.tdiv (wrap64 (bt x0 x4)) 16))).bind fun t257 => ((bourneref03_digit.f (Int.tmod (wrap64 (bt x0 x4)) 16)).bind fun t258 => ((some (([t257, t258] : List Int) : List Int)).bind fun y259 => (if x3.length + y259.length < 140737488355328 then (bourneref03_Hex.l0 k x0 (x3 ++ y259) (wrap64 (x4 + 1))) else (none))))) else (none)) else (some (strOfNums x3))
def bourneref03_Hex.f (k : Nat) (a0 : ByteArray) : Option (ByteArray) := bourneref03_Hex.l0 k a0 ([] : List Int) 0
theorem bourneref03_Hex.mono_l : ∀ k, (∀ y0 y1 y2, LeO (bourneref03_Hex.l0 k y0 y1 y2) (bourneref03_Hex.l0 (k + 1) y0 y1 y2))
 | 0 => fun _ _ _ r h => by simp [bourneref03_Hex.l0] at h
 | k + 1 => by
  have ih0 := bourneref03_Hex.mono_l k
  ·intro y0 y1 y2
   unfold bourneref03_Hex.l0
   repeat' first
   | (with_reducible exact ih0 _ _ _)
   | (with_reducible exact LeO.refl _)
   | (with_reducible exact LeO.none _)
   | (with_reducible refine LeO.ite ?_ ?_)
   | (with_reducible refine LeO.bind ?_ (fun _ => ?_))
   | exact ih0 _ _ _
   | exact LeO.none _
   | refine LeO.ite ?_ ?_
   | refine LeO.bind ?_ (fun _ => ?_)
theorem bourneref03_Hex.mono : ∀ a0 k, LeO (bourneref03_Hex.f k a0) (bourneref03_Hex.f (k + 1) a0) := by
 intro a0 k
 have ih0 := bourneref03_Hex.mono_l k
 unfold bourneref03_Hex.f
 repeat' first
   | (with_reducible exact ih0 _ _ _)
   | (with_reducible exact LeO.refl _)
   | (with_reducible exact LeO.none _)
   | (with_reducible refine LeO.ite ?_ ?_)
   | (with_reducible refine LeO.bind ?_ (fun _ => ?_))
   | exact ih0 _ _ _
   | exact LeO.none _
   | refine LeO.ite ?_ ?_
   | refine LeO.bind ?_ (fun _ => ?_)
def bourneref03_Hex.T5 : Bool × List (List Nat × List Nat) := (true, [([], []), ([], []), ([], []), ([1, 2], [1, 2]), ([3], [3]), ([4], [4]), ([5], [5]), ([], []), ([], []), ([7, 8], [7, 8]), ([9], [9]), ([10], [10]), ([11, 6], [11]), ([6, 12], [6, 12]), ([0, 13, 12], [0, 13]), ([14, 14, 0, 1, 2, 3, 4, 5, 6, 7, 8, 9, 10, 11, 12, 13, 14], [0, 14])])
def bourneref03_Hex.B5 : List Nat := [0, 0, 0, 6, 14, 30, 62, 0, 0, 384, 896, 1920, 4094, 8190, 16383, 32767]
theorem bourneref03_Hex.tab5 : rtab .any (opsOf Tryd.f36 5) = bourneref03_Hex.T5 := by kernel_rfl
theorem bourneref03_Hex.bits5 : waitsOk bourneref03_Hex.T5.2 bourneref03_Hex.B5 = true := by kernel_rfl
set_option maxHeartbeats 8000000 in
set_option maxRecDepth 100000 in
theorem bourneref03_Hex.calls (k : Nat) (a0 : ByteArray) (r : ByteArray) (w : World) (h : bourneref03_Hex.f k a0 = some r) :
  Calls Tryd.prog 36 #[.string a0] w fun e w' => e = .returned (.string r) ∧ Below w.heap.size w w' := by
 have HB := Aside0.mk (Below.refl w.heap.size w)
 have H : (bourneref03_Hex.l0 k a0 ([] : List Int) 0) = some r := h
 clear h
 have H' := Aside0.mk H
 clear H
 go_enter Tryd.func36, Tryd.ntmps36
 go_wp2
 go_loopg [3, 4] k (fun kq v3 v4 w' => ∃ (x3_1 : List Int) (x4_1 : Int), v4 = .int .i64 x4_1 ∧ Aside0 (bourneref03_Hex.l0 kq a0 x3_1 x4_1 = some r) ∧ Aside0 (kq ≤ k) ∧ Aside0 (Kd.R (Kd.int .u8) 5 w' w.heap.size (fun _ => True) v3 x3_1) ∧ Aside0 (Below w.heap.size w w'))
 case atStart => exact ⟨(([] : List Int)), (0), (by first | rfl | (simp; done) | (simp [*]; done)), H', ⟨Nat.le_refl _⟩, ⟨by first | exact Kd.R_nil _ _ _ _ _ | exact Kd.N_nil _ _ _ _ _ | exact Kd.V_nil _ _ _ _ _ | exact Kd.Q_nil _ _ _ _ _ | exact Kd.S_nil _ _ _ _ _⟩, ⟨by repeat (first | (with_reducible first | exact HB.out | apply below_alloc | apply pw_below_drewN | apply below_drew1) | exact HB.out)⟩⟩
 case round =>
  clear H'
  obtain ⟨x3_1, x4_1, rfl, HA, HK1, HO_3, HB⟩ := hrel
  cases gk with
  | zero => exact absurd HA.out (by simp [bourneref03_Hex.l0])
  | succ k1 =>
   have H := HA.out
   clear HA
   simp only [bourneref03_Hex.l0] at H
   by_cases c2 : x4_1 < (a0.size : Int)
   rotate_left
   ·rw [if_neg c2] at H
    have c2b0 : decide (x4_1 < (a0.size : Int)) = false := decide_eq_false c2
    clear c2
    obtain rfl := Option.some.inj H
    have hcv14 := own_string (P := Tryd.prog) Tryd.underlying30 Tryd.underlying5 Tryd.underlying9 (Kd.own_of_R HO_3.out)
    go_wp2
    go_ret
    exact ⟨by first | rfl | (simp [errW_none, errW_some] <;> rfl) | (simp [*, errW_none, errW_some] <;> rfl), by repeat (first | (with_reducible first | exact HB.out | apply below_alloc | apply pw_below_drewN | apply below_drew1) | exact HB.out)⟩
   rw [if_pos c2] at H
   have c2b0 : decide (x4_1 < (a0.size : Int)) = true := decide_eq_true c2
   clear c2
   by_cases c3 : 0 ≤ x4_1
   rotate_left
   ·rw [if_neg c3] at H
    exact absurd H (by simp)
   rw [if_pos c3] at H
   have c3b0 : decide (0 ≤ x4_1) = true := decide_eq_true c3
   clear c3
   replace H := Option.bind_eq_some_iff.mp H
   obtain ⟨t257, A50, H⟩ := H
   replace H : ((bourneref03_digit.f (Int.tmod (wrap64 (bt a0 x4_1)) 16)).bind fun t258 => ((some (([t257, t258] : List Int) : List Int)).bind fun y259 => (if x3_1.length + y259.length < 140737488355328 then (bourneref03_Hex.l0 k1 a0 (x3_1 ++ y259) (wrap64 (x4_1 + 1))) else (none)))) = some r := H
   have A5 := Aside0.mk A50
   clear A50
   replace H := Option.bind_eq_some_iff.mp H
   obtain ⟨t258, A70, H⟩ := H
   replace H : ((some (([t257, t258] : List Int) : List Int)).bind fun y259 => (if x3_1.length + y259.length < 140737488355328 then (bourneref03_Hex.l0 k1 a0 (x3_1 ++ y259) (wrap64 (x4_1 + 1))) else (none))) = some r := H
   have A7 := Aside0.mk A70
   clear A70
   obtain ⟨y259, hy259⟩ : ∃ y_ : List Int, y_ = (([t257, t258] : List Int)) := ⟨_, rfl⟩
   replace H : (if x3_1.length + y259.length < 140737488355328 then (bourneref03_Hex.l0 k1 a0 (x3_1 ++ y259) (wrap64 (x4_1 + 1))) else (none)) = some r := by first | (rw [hy259]; with_reducible exact H) | (have H2_ := (Option.bind_some _ _).symm.trans H; rw [hy259]; with_reducible exact H2_) | (have H2_ := (Option.bind_some _ _).symm.trans H; with_reducible exact H2_) | with_reducible exact H | (rw [hy259]; exact H) | exact H
   have Ny259 := Aside0.mk hy259
   clear hy259
   by_cases c8 : x3_1.length + y259.length < 140737488355328
   rotate_left
   ·rw [if_neg c8] at H
    exact absurd H (by simp)
   rw [if_pos c8] at H
   have LMc8 := Aside0.mk c8
   clear c8
   obtain ⟨y262, hy262⟩ : ∃ y_ : List Int, y_ = (x3_1 ++ y259) := ⟨_, rfl⟩
   replace H : (bourneref03_Hex.l0 k1 a0 y262 (wrap64 (x4_1 + 1))) = some r := by first | (rw [hy262]; with_reducible exact H) | (have H2_ := (Option.bind_some _ _).symm.trans H; rw [hy262]; with_reducible exact H2_) | (have H2_ := (Option.bind_some _ _).symm.trans H; with_reducible exact H2_) | with_reducible exact H | (rw [hy262]; exact H) | exact H
   have Ny262 := Aside0.mk hy262
   clear hy262
   have H' := Aside0.mk H
   clear H
   try go_wp2
   have n0_ := Aside0.mk (Kd.R_drew HO_3.out)
   have n1_ := Aside0.mk (below_drew1 HB.out)
   clear HO_3
   clear HB
   have HO_3 := n0_
   have HB := n1_
   clear n0_ n1_
   have p4 : 0 ≤ (x4_1 : Int) := of_decide_eq_true (by first | (with_reducible assumption) | assumption)
   have q4 : x4_1 < (a0.size : Int) := of_decide_eq_true (by first | (with_reducible assumption) | assumption)
   have hx4 := bt_at a0 x4_1
   replace p4 := eq_true p4
   replace q4 := eq_true q4
   have p6 : 0 ≤ (x4_1 : Int) := of_decide_eq_true (by first | (with_reducible assumption) | assumption)
   have q6 : x4_1 < (a0.size : Int) := of_decide_eq_true (by first | (with_reducible assumption) | assumption)
   have hx6 := bt_at a0 x4_1
   replace p6 := eq_true p6
   replace q6 := eq_true q6
   refine start_ (n := 16) (S := fun w' => True) (ds := []) #[false, false, false, false, false, false, false, false, false, false, false, false, false, false, false, false] (by kernel_rfl) rfl rfl trivial (fun hHeld => ?_); refine with_tabW bourneref03_Hex.tab5 bourneref03_Hex.bits5 (fun HT_ HW_ => ?_)
   generalize wr.drew = w9 at HO_3 HB hHeld ⊢
   refine pure_ (i := 0) (N := some 11) (v := ?_) (a' := ?_) #[true, false, false, false, false, false, false, false, false, false, false, false, false, false, false, false] rfl rfl (any_of HT_.out (by kernel_rfl)) (fun _ _ _ h => h) (Or.inl ⟨by rfl, ?_⟩) ?_ ?_
   rotate_left
   ·intro w'
    go_simp
    with_reducible rfl
   rotate_left
   ·simp only [Act.put, List.setIfInBounds_toArray, List.set_cons_zero, List.set_cons_succ, i64_w, i32_w]
    rfl
   refine pure_ (i := 1) (N := some 12) (v := ?_) (a' := ?_) #[true, true, false, false, false, false, false, false, false, false, false, false, false, false, false, false] rfl rfl (any_of HT_.out (by kernel_rfl)) (fun _ _ _ h => h) (Or.inl ⟨by rfl, ?_⟩) ?_ ?_
   rotate_left
   ·intro w'
    go_simp
    with_reducible rfl
   rotate_left
   ·simp only [Act.put, List.setIfInBounds_toArray, List.set_cons_zero, List.set_cons_succ, i64_w, i32_w]
    rfl
   refine pure_ (i := 2) (N := some 13) (v := ?_) (a' := ?_) #[true, true, true, false, false, false, false, false, false, false, false, false, false, false, false, false] rfl rfl (any_of HT_.out (by kernel_rfl)) (fun _ _ _ h => h) (Or.inl ⟨by rfl, ?_⟩) ?_ ?_
   rotate_left
   ·intro w'
    go_simp
    with_reducible rfl
   rotate_left
   ·simp only [Act.put, List.setIfInBounds_toArray, List.set_cons_zero, List.set_cons_succ, i64_w, i32_w]
    rfl
   refine pure_ (i := 7) (N := some 18) (v := ?_) (a' := ?_) #[true, true, true, false, false, false, false, true, false, false, false, false, false, false, false, false] rfl rfl (any_of HT_.out (by kernel_rfl)) (fun _ _ _ h => h) (Or.inl ⟨by rfl, ?_⟩) ?_ ?_
   rotate_left
   ·intro w'
    go_simp
    with_reducible rfl
   rotate_left
   ·simp only [Act.put, List.setIfInBounds_toArray, List.set_cons_zero, List.set_cons_succ, i64_w, i32_w]
    rfl
   refine pure_ (i := 8) (N := some 19) (v := ?_) (a' := ?_) #[true, true, true, false, false, false, false, true, true, false, false, false, false, false, false, false] rfl rfl (any_of HT_.out (by kernel_rfl)) (fun _ _ _ h => h) (Or.inl ⟨by rfl, ?_⟩) ?_ ?_
   rotate_left
   ·intro w'
    go_simp
    with_reducible rfl
   rotate_left
   ·simp only [Act.put, List.setIfInBounds_toArray, List.set_cons_zero, List.set_cons_succ, i64_w, i32_w]
    rfl
   refine take_ (i := 3) (N := some 14) (v := ?_) (a' := ?_) #[true, true, true, true, false, false, false, true, true, false, false, false, false, false, false, false] rfl rfl (take_ofW HT_.out HW_.out (by kernel_rfl)) (fun _ _ _ h => h) (Or.inl ⟨by rfl, ?_⟩) hHeld ?_ ?_
   rotate_left
   ·intro w' _
    go_simp
    with_reducible rfl
   rotate_left
   ·simp only [Act.put, List.setIfInBounds_toArray, List.set_cons_zero, List.set_cons_succ, i64_w, i32_w]
    rfl
   refine pure_ (i := 4) (N := some 15) (v := ?_) (a' := ?_) #[true, true, true, true, true, false, false, true, true, false, false, false, false, false, false, false] rfl rfl (any_of HT_.out (by kernel_rfl)) (fun _ _ _ h => h) (Or.inl ⟨by rfl, ?_⟩) ?_ ?_
   rotate_left
   ·intro w'
    go_simp
    with_reducible rfl
   rotate_left
   ·simp only [Act.put, List.setIfInBounds_toArray, List.set_cons_zero, List.set_cons_succ, i64_w, i32_w]
    rfl
   refine pure_ (i := 5) (N := some 16) (v := ?_) (a' := ?_) #[true, true, true, true, true, true, false, true, true, false, false, false, false, false, false, false] rfl rfl (any_of HT_.out (by kernel_rfl)) (fun _ _ _ h => h) (Or.inl ⟨by rfl, ?_⟩) ?_ ?_
   rotate_left
   ·intro w'
    go_simp
    with_reducible rfl
   rotate_left
   ·simp only [Act.put, List.setIfInBounds_toArray, List.set_cons_zero, List.set_cons_succ, i64_w, i32_w]
    rfl
   refine take_ (i := 9) (N := some 20) (v := ?_) (a' := ?_) #[true, true, true, true, true, true, false, true, true, true, false, false, false, false, false, false] rfl rfl (take_ofW HT_.out HW_.out (by kernel_rfl)) (fun _ _ _ h => h) (Or.inl ⟨by rfl, ?_⟩) hHeld ?_ ?_
   rotate_left
   ·intro w' _
    go_simp
    with_reducible rfl
   rotate_left
   ·simp only [Act.put, List.setIfInBounds_toArray, List.set_cons_zero, List.set_cons_succ, i64_w, i32_w]
    rfl
   refine pure_ (i := 10) (N := some 21) (v := ?_) (a' := ?_) #[true, true, true, true, true, true, false, true, true, true, true, false, false, false, false, false] rfl rfl (any_of HT_.out (by kernel_rfl)) (fun _ _ _ h => h) (Or.inl ⟨by rfl, ?_⟩) ?_ ?_
   rotate_left
   ·intro w'
    go_simp
    with_reducible rfl
   rotate_left
   ·simp only [Act.put, List.setIfInBounds_toArray, List.set_cons_zero, List.set_cons_succ, i64_w, i32_w]
    rfl
   refine pure_ (i := 11) (N := some 22) (v := ?_) (a' := ?_) #[true, true, true, true, true, true, false, true, true, true, true, true, false, false, false, false] rfl rfl (any_of HT_.out (by kernel_rfl)) (fun _ _ _ h => h) (Or.inl ⟨by rfl, ?_⟩) ?_ ?_
   rotate_left
   ·intro w'
    go_simp
    with_reducible rfl
   rotate_left
   ·simp only [Act.put, List.setIfInBounds_toArray, List.set_cons_zero, List.set_cons_succ, i64_w, i32_w]
    rfl
   refine one_ (i := 6) (N := some 17) #[true, true, true, true, true, true, true, true, true, true, true, true, false, false, false, false] rfl rfl (one_of HT_.out (by kernel_rfl)) (by decide) (fun K hK => ?_)
   refine goes_ Tryd.func99 (by kernel_rfl) rfl #[.int .i64 (wrap64 (Int.tdiv (wrap64 (bt a0 x4_1)) 16))] (by rfl) rfl rfl (by (try simp only [List.map_toArray, List.map_cons, List.map_nil]); first | done | rfl | (simp only [List.length_drop, List.length_take]; rfl)) ?_
   with_reducible refine (bourneref03_digit.calls (wrap64 (Int.tdiv (wrap64 (bt a0 x4_1)) 16)) t257 _ A5.out).mono ?_
   rintro e w' ⟨rfl, ⟨nd, rfl⟩⟩
   refine ⟨_, rfl, ?_⟩
   refine hK.out _ _ trivial (fun hHeld => ?_)
   clear hK K
   refine norm_ (a' := ?_) ?_ ?_
   rotate_left
   ·show Act.put _ (some 17) _ = _
    simp only [Act.put, List.setIfInBounds_toArray, List.set_cons_zero, List.set_cons_succ, i64_w, i32_w]
    rfl
   refine one_ (i := 12) (N := some 23) #[true, true, true, true, true, true, true, true, true, true, true, true, true, false, false, false] rfl rfl (one_of HT_.out (by kernel_rfl)) (by decide) (fun K hK => ?_)
   refine goes_ Tryd.func99 (by kernel_rfl) rfl #[.int .i64 (Int.tmod (wrap64 (bt a0 x4_1)) 16)] (by rfl) rfl rfl (by (try simp only [List.map_toArray, List.map_cons, List.map_nil]); first | done | rfl | (simp only [List.length_drop, List.length_take]; rfl)) ?_
   with_reducible refine (bourneref03_digit.calls (Int.tmod (wrap64 (bt a0 x4_1)) 16) t258 _ A7.out).mono ?_
   rintro e w' ⟨rfl, ⟨nd, rfl⟩⟩
   refine ⟨_, rfl, ?_⟩
   refine hK.out _ _ trivial (fun hHeld => ?_)
   clear hK K
   refine norm_ (a' := ?_) ?_ ?_
   rotate_left
   ·show Act.put _ (some 23) _ = _
    simp only [Act.put, List.setIfInBounds_toArray, List.set_cons_zero, List.set_cons_succ, i64_w, i32_w]
    rfl
   refine one_ (i := 13) (N := some 24) #[true, true, true, true, true, true, true, true, true, true, true, true, true, true, false, false] rfl rfl (one_of HT_.out (by kernel_rfl)) (by decide) (fun K hK => ?_)
   refine Kd.R_lit_step (Kd.int .u8) _ 5 ?hg (N := 24) ?hd (xs := ([t257, t258] : List Int)) (inner := [.int .u8 t257, .int .u8 t258]) (ok := fun _ => True) (okp := fun _ => True) ?hr ?hp (fun _ hk => hk) trivial (Below.refl _ _) (Nat.le_refl _) (by simp) ?_; (case hd => rfl); (case hg => rfl); (case hr => first | (go_simp; done) | (go_simp; rfl)); (case hp => exact (Reps.one (show Kd.M (Kd.int .u8) _ _ _ t257 [.int .u8 t257] from rfl) (Reps.one (show Kd.M (Kd.int .u8) _ _ _ t258 [.int .u8 t258] from rfl) (Reps.none _ _))))
   intro v260 w10 ho11 hb hg_ hnew_
   clear hg_ hnew_
   (first | rw [← Ny259.out] at ho11 | (simp only [Int.reduceToNat] at ho11; rw [← Ny259.out] at ho11))
   have n0_ := Aside0.mk (Kd.R_elder' (by (with_reducible repeat (first | apply Kd.R_alloc | apply Kd.R_drewN | apply Kd.R_drew)); exact HO_3.out) (Kd.R_base ho11) hb)
   have n1_ := Aside0.mk (Kd.R_lower (Kd.R_new' ho11 (Kd.R_lt (by (with_reducible repeat (first | apply Kd.R_alloc | apply Kd.R_drewN | apply Kd.R_drew)); exact HO_3.out))) (below_size (by repeat (first | (with_reducible first | exact HB.out | apply below_alloc | apply pw_below_drewN | apply below_drew1) | exact HB.out))))
   have n2_ := Aside0.mk (below_step (by repeat (first | (with_reducible first | exact HB.out | apply below_alloc | apply pw_below_drewN | apply below_drew1) | exact HB.out)) hb)
   clear HO_3
   clear HB
   have HO_3 := n0_
   have HO261 := n1_
   have HB := n2_
   clear n0_ n1_ n2_
   clear hb ho11
   obtain ⟨Ao13, co13, eo13⟩ := Kd.R_slice HO261.out
   (first | subst eo13 | (injection eo13 with f1_ f2_ f3_; have f4_ := f1_.symm; have f5_ := f3_.symm; clear f1_ f2_ f3_; subst f4_; subst f5_))
   refine hK.out _ _ trivial (fun hHeld => ?_)
   clear hK K
   refine norm_ (a' := ?_) ?_ ?_
   rotate_left
   ·show Act.put _ (some 24) _ = _
    simp only [Act.put, List.setIfInBounds_toArray, List.set_cons_zero, List.set_cons_succ, i64_w, i32_w]
    rfl
   refine one_ (i := 14) (N := some 25) #[true, true, true, true, true, true, true, true, true, true, true, true, true, true, true, false] rfl rfl (one_of HT_.out (by kernel_rfl)) (by decide) (fun K hK => ?_)
   refine Kd.R_append_rows_step (Kd.int .u8) (w0 := w) w.heap.size (by rfl) (.tmp 11) (.tmp 24) 30 5 (.int .u8 0) 1 rfl Tryd.underlying30 info5 rfl (by decide) (by omega) u3 x3_1 y259 _ _ _ (fun k_ => some k_ ≠ (.slice Ao13 y259.length co13 : Value).ownBlock) (fun _ => False) rfl rfl ?aO ?aR (fun _ _ h => h) (fun _ h => h.elim) ?aF ?aB ?aS ?aL ?_
   (case aR => repeat (first | exact (Kd.R_reads' HO261.out).2.2 | (with_reducible refine Kd.C_alloc ?_ _) | (with_reducible refine Kd.C_drewN ?_ _) | (with_reducible refine Kd.C_drew ?_)))
   (case aB => exact (by repeat (first | (with_reducible first | exact HB.out | apply below_alloc | apply pw_below_drewN | apply below_drew1) | exact HB.out)))
   (case aF => exact (fun k_ hk => Kd.fresh' (Kd.R_lt (by (with_reducible repeat (first | apply Kd.R_alloc | apply Kd.R_drewN | apply Kd.R_drew)); exact HO261.out)) k_ hk))
   (case aO => exact (by (with_reducible repeat (first | apply Kd.R_alloc | apply Kd.R_drewN | apply Kd.R_drew)); exact Kd.R_mono HO_3.out (fun _ hk => hk.2)))
   (case aS => exact (below_size (by repeat (first | (with_reducible first | exact HB.out | apply below_alloc | apply pw_below_drewN | apply below_drew1) | exact HB.out))))
   (case aL => have := LMc8.out; omega)
   intro v263 w12 ho hb hg hat
   rw [← Ny262.out] at ho
   have n0_ := Aside0.mk (Kd.R_after (ok := (fun _ => True)) (by (with_reducible repeat (first | apply Kd.R_alloc | apply Kd.R_drewN | apply Kd.R_drew)); exact HO261.out) hg hat)
   have n1_ := Aside0.mk (hb)
   have n2_ := Aside0.mk (ho)
   clear HO261
   clear HB
   clear HO_3
   have HO261 := n0_
   have HB := n1_
   have HO264 := n2_
   clear n0_ n1_ n2_
   clear ho hb hg hat
   refine hK.out _ _ trivial (fun hHeld => ?_)
   clear hK K
   refine norm_ (a' := ?_) ?_ ?_
   rotate_left
   ·show Act.put _ (some 25) _ = _
    simp only [Act.put, List.setIfInBounds_toArray, List.set_cons_zero, List.set_cons_succ, i64_w, i32_w]
    rfl
   refine pure_ (i := 15) (N := some 3) (v := ?_) (a' := ?_) #[true, true, true, true, true, true, true, true, true, true, true, true, true, true, true, true] rfl rfl (any_of HT_.out (by kernel_rfl)) (fun _ _ _ h => h) (Or.inl ⟨by rfl, ?_⟩) ?_ ?_
   rotate_left
   ·intro w'
    go_simp
    with_reducible rfl
   rotate_left
   ·simp only [Act.put, List.setIfInBounds_toArray, List.set_cons_zero, List.set_cons_succ, i64_w, i32_w]
    rfl
   refine done_ (done_of HT_.out (by kernel_rfl)) ?_
   try go_wp2
   go_roundg k1
   case measure => have := HK1.out; omega
   case rel => exact ⟨(y262), (wrap64 (x4_1 + 1)), (by first | rfl | (simp; done) | (simp [*]; done)), H', ⟨by have := HK1.out; omega⟩, ⟨by (with_reducible repeat (first | apply Kd.R_alloc | apply Kd.R_drewN | apply Kd.R_drew)); exact Kd.R_mono HO264.out (fun _ hk => trivial)⟩, ⟨by repeat (first | (with_reducible first | exact HB.out | apply below_alloc | apply pw_below_drewN | apply below_drew1) | exact HB.out)⟩⟩

end Go.Proofs.YtdgejkiackeieaaDoor.PDigestTells
end
section
-- printed by a program of this session's (xprint.py) out of the translation; Lean checks it
namespace Go.Proofs.YtdgejkiackeieaaDoor.PDigestTells
open Go.RowKit Go.Proofs.YtdgejkiackeieaaDoorW.PrintWords Go.Proofs.YtdgejkiackeieaaDoorW.PrintLast Go.Proofs.YtdgejkiackeieaaDoorW.PrintMore
attribute [local go_sem] max2_int min2_int max_two min_two max_three min_three max_four min_four   -- for this text's walks alone
set_option linter.unusedVariables false
set_option linter.unusedSimpArgs false

/-! ### bournelaw03_DigestTells: function 7 -/
def bournelaw03_DigestTells.j0 : Nat → ByteArray → ByteArray → Bool → Bool → Option (Bool)
 | 0, _, _, _, _ => none
 | k + 1, x0, x1, x5, x18 => if x18 = true then (some x5) else ((digest_Unhex.f x1).bind fun bt266 => ((bourneref03_Unhex.f k x1).bind fun bt268 => (if x5 = true then ((digest_Sum.f x0).bind fun t270 => ((bourneref03_Sum.f k x0).bind fun t271 => (if t270.toList = t271.toList then ((digest_Short.f x0).bind fun t272 => ((bourneref03_Short.f k x0).bind fun t273 => (if t272 = t273 then ((digest_Crc.f x0).bind fun t274 => ((bourneref03_Crc.f k x0).bind fun t275 => (if t274 = t275 then ((digest_Hex.f x0).bind fun t276 => ((bourneref03_Hex.f k x0).bind fun t277 => (if t276.toList = t277.toList then (if bt266.1.toList = bt268.1.toList then (some (bt266.2 == bt268.2)) else (some false)) else (some false)))) else (some false)))) else (some false)))) else (some false)))) else (some false))))
def bournelaw03_DigestTells.f (k : Nat) (a0 : ByteArray) (a1 : ByteArray) : Option (Bool) := (bournelaw03_small.f).bind fun t265 => (if (a0.size : Int) > 2000 then (bournelaw03_DigestTells.j0 k a0 a1 t265 true) else (bournelaw03_DigestTells.j0 k a0 a1 t265 (decide ((a1.size : Int) > 2000))))
theorem bournelaw03_DigestTells.mono_l : ∀ k, (∀ y0 y1 y2 y3, LeO (bournelaw03_DigestTells.j0 k y0 y1 y2 y3) (bournelaw03_DigestTells.j0 (k + 1) y0 y1 y2 y3))
 | 0 => fun _ _ _ _ r h => by simp [bournelaw03_DigestTells.j0] at h
 | k + 1 => by
  have ih0 := bournelaw03_DigestTells.mono_l k
  ·intro y0 y1 y2 y3
   unfold bournelaw03_DigestTells.j0
   repeat' first
   | (with_reducible exact ih0 _ _ _ _)
   | (with_reducible exact bourneref03_Crc.mono _ _)
   | (with_reducible exact bourneref03_Hex.mono _ _)
   | (with_reducible exact bourneref03_Short.mono _ _)
   | (with_reducible exact bourneref03_Sum.mono _ _)
   | (with_reducible exact bourneref03_Unhex.mono _ _)
   | (with_reducible exact LeO.refl _)
   | (with_reducible exact LeO.none _)
   | (with_reducible refine LeO.ite ?_ ?_)
   | (with_reducible refine LeO.bind ?_ (fun _ => ?_))
   | exact ih0 _ _ _ _
   | exact bourneref03_Crc.mono _ _
   | exact bourneref03_Hex.mono _ _
   | exact bourneref03_Short.mono _ _
   | exact bourneref03_Sum.mono _ _
   | exact bourneref03_Unhex.mono _ _
   | exact LeO.none _
   | refine LeO.ite ?_ ?_
   | refine LeO.bind ?_ (fun _ => ?_)
theorem bournelaw03_DigestTells.mono : ∀ a0 a1 k, LeO (bournelaw03_DigestTells.f k a0 a1) (bournelaw03_DigestTells.f (k + 1) a0 a1) := by
 intro a0 a1 k
 have ih0 := bournelaw03_DigestTells.mono_l k
 unfold bournelaw03_DigestTells.f
 repeat' first
   | (with_reducible exact ih0 _ _ _ _)
   | (with_reducible exact bourneref03_Crc.mono _ _)
   | (with_reducible exact bourneref03_Hex.mono _ _)
   | (with_reducible exact bourneref03_Short.mono _ _)
   | (with_reducible exact bourneref03_Sum.mono _ _)
   | (with_reducible exact bourneref03_Unhex.mono _ _)
   | (with_reducible exact LeO.refl _)
   | (with_reducible exact LeO.none _)
   | (with_reducible refine LeO.ite ?_ ?_)
   | (with_reducible refine LeO.bind ?_ (fun _ => ?_))
   | exact ih0 _ _ _ _
   | exact bourneref03_Crc.mono _ _
   | exact bourneref03_Hex.mono _ _
   | exact bourneref03_Short.mono _ _
   | exact bourneref03_Sum.mono _ _
   | exact bourneref03_Unhex.mono _ _
   | exact LeO.none _
   | refine LeO.ite ?_ ?_
   | refine LeO.bind ?_ (fun _ => ?_)
set_option maxHeartbeats 8000000 in
set_option maxRecDepth 100000 in
theorem bournelaw03_DigestTells.calls (k : Nat) (a0 : ByteArray) (a1 : ByteArray) (r : Bool) (w : World) (hGD : DigW w) (h : bournelaw03_DigestTells.f k a0 a1 = some r) :
  Calls Tryd.prog 7 #[.string a0, .string a1] w fun e w' => e = .returned (.bool r) ∧ Below w.heap.size w w' := by
 have HB := Aside0.mk (Below.refl w.heap.size w)
 have H : ((bournelaw03_small.f).bind fun t265 => (if (a0.size : Int) > 2000 then (bournelaw03_DigestTells.j0 k a0 a1 t265 true) else (bournelaw03_DigestTells.j0 k a0 a1 t265 (decide ((a1.size : Int) > 2000))))) = some r := h
 clear h
 replace H := Option.bind_eq_some_iff.mp H
 obtain ⟨t265, A30, H⟩ := H
 replace H : (if (a0.size : Int) > 2000 then (bournelaw03_DigestTells.j0 k a0 a1 t265 true) else (bournelaw03_DigestTells.j0 k a0 a1 t265 (decide ((a1.size : Int) > 2000)))) = some r := H
 have A3 := Aside0.mk A30
 clear A30
 have HC4 := Aside0.mk H
 clear H
 go_enter Tryd.func7, Tryd.ntmps7
 go_upto_region 2 with (first | ((with_reducible refine gate_callee (f := 25) rfl ?_); refine goesL_ (some 10) rfl rfl Tryd.func25 (by kernel_rfl) rfl #[] rfl (by (try simp only [List.map_toArray, List.map_cons, List.map_nil]); first | done | rfl | (simp only [List.length_drop, List.length_take]; rfl)) ?_; (with_reducible refine (bournelaw03_small.calls  t265 _ ?side1 A3.out).mono ?_); (case side1 => first | exact hGD | exact DigW.below hGD (by repeat (first | (with_reducible first | exact HB.out | apply below_alloc | apply pw_below_drewN | apply below_drew1) | exact HB.out))); rintro e w5 ⟨rfl, hb⟩; refine ⟨_, rfl, ?_⟩; have n0_ := Aside0.mk (below_step (by repeat (first | (with_reducible first | exact HB.out | apply below_alloc | apply pw_below_drewN | apply below_drew1) | exact HB.out)) hb); clear HB; have HB := n0_; clear n0_; (try clear hb); (try clear hb2); (try clear hk); (try clear hi)))
 (try simp only [Act.put, List.setIfInBounds_toArray, List.set_cons_zero, List.set_cons_succ])
 go_cut [18] (fun v18 wc => ∃ (kq : Nat) (x18_3 : Bool), v18 = .bool x18_3 ∧ Aside0 (bournelaw03_DigestTells.j0 kq a0 a1 t265 x18_3 = some r) ∧ Aside0 (kq ≤ k) ∧ Aside0 (Below w.heap.size w wc))
 case first =>
  have H := HC4.out
  clear HC4
  by_cases c6 : (a0.size : Int) > 2000
  ·rw [if_pos c6] at H
   have c6b0 : decide (2000 < (a0.size : Int)) = true := decide_eq_true c6
   have c6b1 : decide (2000 < a0.size) = true := decide_eq_true (by omega)
   clear c6
   (first | rw [c6b0] | (simp only [i64_w, i32_w]; rw [c6b0]) | skip)
   have H' := Aside0.mk H
   clear H
   go_wp2
   go_meet
   case rel => exact ⟨_, (true), (by first | rfl | (simp; done) | (simp [*]; done)), H', ⟨by first | omega | exact Nat.le_refl _⟩, ⟨by repeat (first | (with_reducible first | exact HB.out | apply below_alloc | apply pw_below_drewN | apply below_drew1) | exact HB.out)⟩⟩
  rw [if_neg c6] at H
  have c6b0 : decide (2000 < (a0.size : Int)) = false := decide_eq_false c6
  have c6b1 : decide (2000 < a0.size) = false := decide_eq_false (by omega)
  clear c6
  (first | rw [c6b0] | (simp only [i64_w, i32_w]; rw [c6b0]) | skip)
  have H' := Aside0.mk H
  clear H
  go_wp2
  go_meet
  case rel => exact ⟨_, (decide ((a1.size : Int) > 2000)), (by first | rfl | (simp; done) | (simp [*]; done)), H', ⟨by first | omega | exact Nat.le_refl _⟩, ⟨by repeat (first | (with_reducible first | exact HB.out | apply below_alloc | apply pw_below_drewN | apply below_drew1) | exact HB.out)⟩⟩
 case rest =>
  clear HC4
  try clear c2
  try clear p2
  try clear c6
  try clear c6b0
  try clear c6b1
  obtain ⟨kq, x18_3, rfl, HA, HJ3, HB⟩ := hcut
  cases kq with
  | zero => exact absurd HA.out (by simp [bournelaw03_DigestTells.j0])
  | succ kj3 =>
   have H := HA.out
   clear HA
   simp only [bournelaw03_DigestTells.j0] at H
   by_cases c7 : x18_3 = true
   ·subst c7
    have H1 : (some t265) = some r := by rw [if_pos rfl] at H; exact H
    clear H
    have H := H1
    clear H1
    obtain rfl := Option.some.inj H
    go_wp2
    go_ret
    exact ⟨by first | rfl | (simp [errW_none, errW_some] <;> rfl) | (simp [*, errW_none, errW_some] <;> rfl), by repeat (first | (with_reducible first | exact HB.out | apply below_alloc | apply pw_below_drewN | apply below_drew1) | exact HB.out)⟩
   replace c7 := Bool.eq_false_iff.mpr c7
   subst c7
   have H1 : ((digest_Unhex.f a1).bind fun bt266 => ((bourneref03_Unhex.f kj3 a1).bind fun bt268 => (if t265 = true then ((digest_Sum.f a0).bind fun t270 => ((bourneref03_Sum.f kj3 a0).bind fun t271 => (if t270.toList = t271.toList then ((digest_Short.f a0).bind fun t272 => ((bourneref03_Short.f kj3 a0).bind fun t273 => (if t272 = t273 then ((digest_Crc.f a0).bind fun t274 => ((bourneref03_Crc.f kj3 a0).bind fun t275 => (if t274 = t275 then ((digest_Hex.f a0).bind fun t276 => ((bourneref03_Hex.f kj3 a0).bind fun t277 => (if t276.toList = t277.toList then (if bt266.1.toList = bt268.1.toList then (some (bt266.2 == bt268.2)) else (some false)) else (some false)))) else (some false)))) else (some false)))) else (some false)))) else (some false)))) = some r := by rw [if_neg (show ¬ (false = true) by decide)] at H; exact H
   clear H
   have H := H1
   clear H1
   replace H := Option.bind_eq_some_iff.mp H
   obtain ⟨⟨t266, t267⟩, A80, H⟩ := H
   replace H : ((bourneref03_Unhex.f kj3 a1).bind fun bt268 => (if t265 = true then ((digest_Sum.f a0).bind fun t270 => ((bourneref03_Sum.f kj3 a0).bind fun t271 => (if t270.toList = t271.toList then ((digest_Short.f a0).bind fun t272 => ((bourneref03_Short.f kj3 a0).bind fun t273 => (if t272 = t273 then ((digest_Crc.f a0).bind fun t274 => ((bourneref03_Crc.f kj3 a0).bind fun t275 => (if t274 = t275 then ((digest_Hex.f a0).bind fun t276 => ((bourneref03_Hex.f kj3 a0).bind fun t277 => (if t276.toList = t277.toList then (if t266.toList = bt268.1.toList then (some (t267 == bt268.2)) else (some false)) else (some false)))) else (some false)))) else (some false)))) else (some false)))) else (some false))) = some r := H
   have A8 := Aside0.mk A80
   clear A80
   replace H := Option.bind_eq_some_iff.mp H
   obtain ⟨⟨t268, t269⟩, A90, H⟩ := H
   replace H : (if t265 = true then ((digest_Sum.f a0).bind fun t270 => ((bourneref03_Sum.f kj3 a0).bind fun t271 => (if t270.toList = t271.toList then ((digest_Short.f a0).bind fun t272 => ((bourneref03_Short.f kj3 a0).bind fun t273 => (if t272 = t273 then ((digest_Crc.f a0).bind fun t274 => ((bourneref03_Crc.f kj3 a0).bind fun t275 => (if t274 = t275 then ((digest_Hex.f a0).bind fun t276 => ((bourneref03_Hex.f kj3 a0).bind fun t277 => (if t276.toList = t277.toList then (if t266.toList = t268.toList then (some (t267 == t269)) else (some false)) else (some false)))) else (some false)))) else (some false)))) else (some false)))) else (some false)) = some r := H
   have A9 := Aside0.mk A90
   clear A90
   by_cases c10 : t265 = true
   rotate_left
   ·replace c10 := Bool.eq_false_iff.mpr c10
    subst c10
    have H1 : (some false) = some r := by rw [if_neg (show ¬ (false = true) by decide)] at H; exact H
    clear H
    have H := H1
    clear H1
    obtain rfl := Option.some.inj H
    go_wp2_with (first | ((with_reducible refine gate_callee (f := 27) rfl ?_); refine goesL_ (some 22) rfl rfl Tryd.func27 (by kernel_rfl) rfl #[.string a1] rfl (by (try simp only [List.map_toArray, List.map_cons, List.map_nil]); first | done | rfl | (simp only [List.length_drop, List.length_take]; rfl)) ?_; (with_reducible refine (digest_Unhex.calls a1 t266 t267 _ A8.out).mono ?_); rintro e w64 ⟨rfl, hb⟩; refine ⟨_, rfl, ?_⟩; have n0_ := Aside0.mk (below_step (by repeat (first | (with_reducible first | exact HB.out | apply below_alloc | apply pw_below_drewN | apply below_drew1) | exact HB.out)) hb); clear HB; have HB := n0_; clear n0_; (try clear hb); (try clear hb2); (try clear hk); (try clear hi)) | ((with_reducible refine gate_callee (f := 30) rfl ?_); refine goesL_ (some 27) rfl rfl Tryd.func30 (by kernel_rfl) rfl #[.string a1] rfl (by (try simp only [List.map_toArray, List.map_cons, List.map_nil]); first | done | rfl | (simp only [List.length_drop, List.length_take]; rfl)) ?_; (with_reducible refine (bourneref03_Unhex.calls kj3 a1 t268 t269 _ A9.out).mono ?_); rintro e w65 ⟨rfl, hb⟩; refine ⟨_, rfl, ?_⟩; have n0_ := Aside0.mk (below_step (by repeat (first | (with_reducible first | exact HB.out | apply below_alloc | apply pw_below_drewN | apply below_drew1) | exact HB.out)) hb); clear HB; have HB := n0_; clear n0_; (try clear hb); (try clear hb2); (try clear hk); (try clear hi)))
    go_ret
    exact ⟨by first | rfl | (simp [errW_none, errW_some] <;> rfl) | (simp [*, errW_none, errW_some] <;> rfl), by repeat (first | (with_reducible first | exact HB.out | apply below_alloc | apply pw_below_drewN | apply below_drew1) | exact HB.out)⟩
   subst c10
   have H1 : ((digest_Sum.f a0).bind fun t270 => ((bourneref03_Sum.f kj3 a0).bind fun t271 => (if t270.toList = t271.toList then ((digest_Short.f a0).bind fun t272 => ((bourneref03_Short.f kj3 a0).bind fun t273 => (if t272 = t273 then ((digest_Crc.f a0).bind fun t274 => ((bourneref03_Crc.f kj3 a0).bind fun t275 => (if t274 = t275 then ((digest_Hex.f a0).bind fun t276 => ((bourneref03_Hex.f kj3 a0).bind fun t277 => (if t276.toList = t277.toList then (if t266.toList = t268.toList then (some (t267 == t269)) else (some false)) else (some false)))) else (some false)))) else (some false)))) else (some false)))) = some r := by rw [if_pos rfl] at H; exact H
   clear H
   have H := H1
   clear H1
   replace H := Option.bind_eq_some_iff.mp H
   obtain ⟨t270, A110, H⟩ := H
   replace H : ((bourneref03_Sum.f kj3 a0).bind fun t271 => (if t270.toList = t271.toList then ((digest_Short.f a0).bind fun t272 => ((bourneref03_Short.f kj3 a0).bind fun t273 => (if t272 = t273 then ((digest_Crc.f a0).bind fun t274 => ((bourneref03_Crc.f kj3 a0).bind fun t275 => (if t274 = t275 then ((digest_Hex.f a0).bind fun t276 => ((bourneref03_Hex.f kj3 a0).bind fun t277 => (if t276.toList = t277.toList then (if t266.toList = t268.toList then (some (t267 == t269)) else (some false)) else (some false)))) else (some false)))) else (some false)))) else (some false))) = some r := H
   have A11 := Aside0.mk A110
   clear A110
   replace H := Option.bind_eq_some_iff.mp H
   obtain ⟨t271, A120, H⟩ := H
   replace H : (if t270.toList = t271.toList then ((digest_Short.f a0).bind fun t272 => ((bourneref03_Short.f kj3 a0).bind fun t273 => (if t272 = t273 then ((digest_Crc.f a0).bind fun t274 => ((bourneref03_Crc.f kj3 a0).bind fun t275 => (if t274 = t275 then ((digest_Hex.f a0).bind fun t276 => ((bourneref03_Hex.f kj3 a0).bind fun t277 => (if t276.toList = t277.toList then (if t266.toList = t268.toList then (some (t267 == t269)) else (some false)) else (some false)))) else (some false)))) else (some false)))) else (some false)) = some r := H
   have A12 := Aside0.mk A120
   clear A120
   by_cases c13 : t270.toList = t271.toList
   rotate_left
   ·rw [if_neg c13] at H
    have c13b0 : (t270.toList == t271.toList) = false := beq_eq_false_iff_ne.mpr c13
    have c13b1 : (t270.toList != t271.toList) = true := bne_iff_ne.mpr c13
    obtain rfl := Option.some.inj H
    go_wp2_with (first | ((with_reducible refine gate_callee (f := 27) rfl ?_); refine goesL_ (some 22) rfl rfl Tryd.func27 (by kernel_rfl) rfl #[.string a1] rfl (by (try simp only [List.map_toArray, List.map_cons, List.map_nil]); first | done | rfl | (simp only [List.length_drop, List.length_take]; rfl)) ?_; (with_reducible refine (digest_Unhex.calls a1 t266 t267 _ A8.out).mono ?_); rintro e w60 ⟨rfl, hb⟩; refine ⟨_, rfl, ?_⟩; have n0_ := Aside0.mk (below_step (by repeat (first | (with_reducible first | exact HB.out | apply below_alloc | apply pw_below_drewN | apply below_drew1) | exact HB.out)) hb); clear HB; have HB := n0_; clear n0_; (try clear hb); (try clear hb2); (try clear hk); (try clear hi)) | ((with_reducible refine gate_callee (f := 30) rfl ?_); refine goesL_ (some 27) rfl rfl Tryd.func30 (by kernel_rfl) rfl #[.string a1] rfl (by (try simp only [List.map_toArray, List.map_cons, List.map_nil]); first | done | rfl | (simp only [List.length_drop, List.length_take]; rfl)) ?_; (with_reducible refine (bourneref03_Unhex.calls kj3 a1 t268 t269 _ A9.out).mono ?_); rintro e w61 ⟨rfl, hb⟩; refine ⟨_, rfl, ?_⟩; have n0_ := Aside0.mk (below_step (by repeat (first | (with_reducible first | exact HB.out | apply below_alloc | apply pw_below_drewN | apply below_drew1) | exact HB.out)) hb); clear HB; have HB := n0_; clear n0_; (try clear hb); (try clear hb2); (try clear hk); (try clear hi)) | (go_at_call 31; (with_reducible refine (digest_Sum.calls a0 t270 _ ?side1 A11.out).mono ?_); (case side1 => first | exact hGD | exact DigW.below hGD (by repeat (first | (with_reducible first | exact HB.out | apply below_alloc | apply pw_below_drewN | apply below_drew1) | exact HB.out))); rintro e w62 ⟨rfl, hb⟩; have n0_ := Aside0.mk (below_step (by repeat (first | (with_reducible first | exact HB.out | apply below_alloc | apply pw_below_drewN | apply below_drew1) | exact HB.out)) hb); clear HB; have HB := n0_; clear n0_; (try clear hb); (try clear hb2); (try clear hk); (try clear hi)) | (go_at_call 32; (with_reducible refine (bourneref03_Sum.calls kj3 a0 t271 _ A12.out).mono ?_); rintro e w63 ⟨rfl, hb⟩; have n0_ := Aside0.mk (below_step (by repeat (first | (with_reducible first | exact HB.out | apply below_alloc | apply pw_below_drewN | apply below_drew1) | exact HB.out)) hb); clear HB; have HB := n0_; clear n0_; (try clear hb); (try clear hb2); (try clear hk); (try clear hi)))
    go_ret
    exact ⟨by first | rfl | (simp [errW_none, errW_some] <;> rfl) | (simp [*, errW_none, errW_some] <;> rfl), by repeat (first | (with_reducible first | exact HB.out | apply below_alloc | apply pw_below_drewN | apply below_drew1) | exact HB.out)⟩
   rw [if_pos c13] at H
   have c13b0 : (t270.toList == t271.toList) = true := beq_iff_eq.mpr c13
   have c13b1 : (t270.toList != t271.toList) = false := bne_eq_false_iff_eq.mpr c13
   clear c13
   replace H := Option.bind_eq_some_iff.mp H
   obtain ⟨t272, A140, H⟩ := H
   replace H : ((bourneref03_Short.f kj3 a0).bind fun t273 => (if t272 = t273 then ((digest_Crc.f a0).bind fun t274 => ((bourneref03_Crc.f kj3 a0).bind fun t275 => (if t274 = t275 then ((digest_Hex.f a0).bind fun t276 => ((bourneref03_Hex.f kj3 a0).bind fun t277 => (if t276.toList = t277.toList then (if t266.toList = t268.toList then (some (t267 == t269)) else (some false)) else (some false)))) else (some false)))) else (some false))) = some r := H
   have A14 := Aside0.mk A140
   clear A140
   replace H := Option.bind_eq_some_iff.mp H
   obtain ⟨t273, A150, H⟩ := H
   replace H : (if t272 = t273 then ((digest_Crc.f a0).bind fun t274 => ((bourneref03_Crc.f kj3 a0).bind fun t275 => (if t274 = t275 then ((digest_Hex.f a0).bind fun t276 => ((bourneref03_Hex.f kj3 a0).bind fun t277 => (if t276.toList = t277.toList then (if t266.toList = t268.toList then (some (t267 == t269)) else (some false)) else (some false)))) else (some false)))) else (some false)) = some r := H
   have A15 := Aside0.mk A150
   clear A150
   by_cases c16 : t272 = t273
   rotate_left
   ·rw [if_neg c16] at H
    have c16b0 : (t272 == t273) = false := beq_eq_false_iff_ne.mpr c16
    have c16b1 : (t272 != t273) = true := bne_iff_ne.mpr c16
    obtain rfl := Option.some.inj H
    go_wp2_with (first | ((with_reducible refine gate_callee (f := 27) rfl ?_); refine goesL_ (some 22) rfl rfl Tryd.func27 (by kernel_rfl) rfl #[.string a1] rfl (by (try simp only [List.map_toArray, List.map_cons, List.map_nil]); first | done | rfl | (simp only [List.length_drop, List.length_take]; rfl)) ?_; (with_reducible refine (digest_Unhex.calls a1 t266 t267 _ A8.out).mono ?_); rintro e w54 ⟨rfl, hb⟩; refine ⟨_, rfl, ?_⟩; have n0_ := Aside0.mk (below_step (by repeat (first | (with_reducible first | exact HB.out | apply below_alloc | apply pw_below_drewN | apply below_drew1) | exact HB.out)) hb); clear HB; have HB := n0_; clear n0_; (try clear hb); (try clear hb2); (try clear hk); (try clear hi)) | ((with_reducible refine gate_callee (f := 30) rfl ?_); refine goesL_ (some 27) rfl rfl Tryd.func30 (by kernel_rfl) rfl #[.string a1] rfl (by (try simp only [List.map_toArray, List.map_cons, List.map_nil]); first | done | rfl | (simp only [List.length_drop, List.length_take]; rfl)) ?_; (with_reducible refine (bourneref03_Unhex.calls kj3 a1 t268 t269 _ A9.out).mono ?_); rintro e w55 ⟨rfl, hb⟩; refine ⟨_, rfl, ?_⟩; have n0_ := Aside0.mk (below_step (by repeat (first | (with_reducible first | exact HB.out | apply below_alloc | apply pw_below_drewN | apply below_drew1) | exact HB.out)) hb); clear HB; have HB := n0_; clear n0_; (try clear hb); (try clear hb2); (try clear hk); (try clear hi)) | (go_at_call 31; (with_reducible refine (digest_Sum.calls a0 t270 _ ?side1 A11.out).mono ?_); (case side1 => first | exact hGD | exact DigW.below hGD (by repeat (first | (with_reducible first | exact HB.out | apply below_alloc | apply pw_below_drewN | apply below_drew1) | exact HB.out))); rintro e w56 ⟨rfl, hb⟩; have n0_ := Aside0.mk (below_step (by repeat (first | (with_reducible first | exact HB.out | apply below_alloc | apply pw_below_drewN | apply below_drew1) | exact HB.out)) hb); clear HB; have HB := n0_; clear n0_; (try clear hb); (try clear hb2); (try clear hk); (try clear hi)) | (go_at_call 32; (with_reducible refine (bourneref03_Sum.calls kj3 a0 t271 _ A12.out).mono ?_); rintro e w57 ⟨rfl, hb⟩; have n0_ := Aside0.mk (below_step (by repeat (first | (with_reducible first | exact HB.out | apply below_alloc | apply pw_below_drewN | apply below_drew1) | exact HB.out)) hb); clear HB; have HB := n0_; clear n0_; (try clear hb); (try clear hb2); (try clear hk); (try clear hi)) | (go_at_call 33; (with_reducible refine (digest_Short.calls a0 t272 _ ?side1 A14.out).mono ?_); (case side1 => first | exact hGD | exact DigW.below hGD (by repeat (first | (with_reducible first | exact HB.out | apply below_alloc | apply pw_below_drewN | apply below_drew1) | exact HB.out))); rintro e w58 ⟨rfl, hb⟩; have n0_ := Aside0.mk (below_step (by repeat (first | (with_reducible first | exact HB.out | apply below_alloc | apply pw_below_drewN | apply below_drew1) | exact HB.out)) hb); clear HB; have HB := n0_; clear n0_; (try clear hb); (try clear hb2); (try clear hk); (try clear hi)) | (go_at_call 34; (with_reducible refine (bourneref03_Short.calls kj3 a0 t273 _ A15.out).mono ?_); rintro e w59 ⟨rfl, hb⟩; have n0_ := Aside0.mk (below_step (by repeat (first | (with_reducible first | exact HB.out | apply below_alloc | apply pw_below_drewN | apply below_drew1) | exact HB.out)) hb); clear HB; have HB := n0_; clear n0_; (try clear hb); (try clear hb2); (try clear hk); (try clear hi)))
    go_ret
    exact ⟨by first | rfl | (simp [errW_none, errW_some] <;> rfl) | (simp [*, errW_none, errW_some] <;> rfl), by repeat (first | (with_reducible first | exact HB.out | apply below_alloc | apply pw_below_drewN | apply below_drew1) | exact HB.out)⟩
   rw [if_pos c16] at H
   have c16b0 : (t272 == t273) = true := beq_iff_eq.mpr c16
   have c16b1 : (t272 != t273) = false := bne_eq_false_iff_eq.mpr c16
   clear c16
   replace H := Option.bind_eq_some_iff.mp H
   obtain ⟨t274, A170, H⟩ := H
   replace H : ((bourneref03_Crc.f kj3 a0).bind fun t275 => (if t274 = t275 then ((digest_Hex.f a0).bind fun t276 => ((bourneref03_Hex.f kj3 a0).bind fun t277 => (if t276.toList = t277.toList then (if t266.toList = t268.toList then (some (t267 == t269)) else (some false)) else (some false)))) else (some false))) = some r := H
   have A17 := Aside0.mk A170
   clear A170
   replace H := Option.bind_eq_some_iff.mp H
   obtain ⟨t275, A180, H⟩ := H
   replace H : (if t274 = t275 then ((digest_Hex.f a0).bind fun t276 => ((bourneref03_Hex.f kj3 a0).bind fun t277 => (if t276.toList = t277.toList then (if t266.toList = t268.toList then (some (t267 == t269)) else (some false)) else (some false)))) else (some false)) = some r := H
   have A18 := Aside0.mk A180
   clear A180
   by_cases c19 : t274 = t275
   rotate_left
   ·rw [if_neg c19] at H
    have c19b0 : (t274 == t275) = false := beq_eq_false_iff_ne.mpr c19
    have c19b1 : (t274 != t275) = true := bne_iff_ne.mpr c19
    obtain rfl := Option.some.inj H
    go_wp2_with (first | ((with_reducible refine gate_callee (f := 27) rfl ?_); refine goesL_ (some 22) rfl rfl Tryd.func27 (by kernel_rfl) rfl #[.string a1] rfl (by (try simp only [List.map_toArray, List.map_cons, List.map_nil]); first | done | rfl | (simp only [List.length_drop, List.length_take]; rfl)) ?_; (with_reducible refine (digest_Unhex.calls a1 t266 t267 _ A8.out).mono ?_); rintro e w48 ⟨rfl, hb⟩; refine ⟨_, rfl, ?_⟩; have n0_ := Aside0.mk (below_step (by repeat (first | (with_reducible first | exact HB.out | apply below_alloc | apply pw_below_drewN | apply below_drew1) | exact HB.out)) hb); clear HB; have HB := n0_; clear n0_; (try clear hb); (try clear hb2); (try clear hk); (try clear hi)) | ((with_reducible refine gate_callee (f := 30) rfl ?_); refine goesL_ (some 27) rfl rfl Tryd.func30 (by kernel_rfl) rfl #[.string a1] rfl (by (try simp only [List.map_toArray, List.map_cons, List.map_nil]); first | done | rfl | (simp only [List.length_drop, List.length_take]; rfl)) ?_; (with_reducible refine (bourneref03_Unhex.calls kj3 a1 t268 t269 _ A9.out).mono ?_); rintro e w49 ⟨rfl, hb⟩; refine ⟨_, rfl, ?_⟩; have n0_ := Aside0.mk (below_step (by repeat (first | (with_reducible first | exact HB.out | apply below_alloc | apply pw_below_drewN | apply below_drew1) | exact HB.out)) hb); clear HB; have HB := n0_; clear n0_; (try clear hb); (try clear hb2); (try clear hk); (try clear hi)) | (go_at_call 31; (with_reducible refine (digest_Sum.calls a0 t270 _ ?side1 A11.out).mono ?_); (case side1 => first | exact hGD | exact DigW.below hGD (by repeat (first | (with_reducible first | exact HB.out | apply below_alloc | apply pw_below_drewN | apply below_drew1) | exact HB.out))); rintro e w50 ⟨rfl, hb⟩; have n0_ := Aside0.mk (below_step (by repeat (first | (with_reducible first | exact HB.out | apply below_alloc | apply pw_below_drewN | apply below_drew1) | exact HB.out)) hb); clear HB; have HB := n0_; clear n0_; (try clear hb); (try clear hb2); (try clear hk); (try clear hi)) | (go_at_call 32; (with_reducible refine (bourneref03_Sum.calls kj3 a0 t271 _ A12.out).mono ?_); rintro e w51 ⟨rfl, hb⟩; have n0_ := Aside0.mk (below_step (by repeat (first | (with_reducible first | exact HB.out | apply below_alloc | apply pw_below_drewN | apply below_drew1) | exact HB.out)) hb); clear HB; have HB := n0_; clear n0_; (try clear hb); (try clear hb2); (try clear hk); (try clear hi)) | (go_at_call 33; (with_reducible refine (digest_Short.calls a0 t272 _ ?side1 A14.out).mono ?_); (case side1 => first | exact hGD | exact DigW.below hGD (by repeat (first | (with_reducible first | exact HB.out | apply below_alloc | apply pw_below_drewN | apply below_drew1) | exact HB.out))); rintro e w52 ⟨rfl, hb⟩; have n0_ := Aside0.mk (below_step (by repeat (first | (with_reducible first | exact HB.out | apply below_alloc | apply pw_below_drewN | apply below_drew1) | exact HB.out)) hb); clear HB; have HB := n0_; clear n0_; (try clear hb); (try clear hb2); (try clear hk); (try clear hi)) | (go_at_call 34; (with_reducible refine (bourneref03_Short.calls kj3 a0 t273 _ A15.out).mono ?_); rintro e w53 ⟨rfl, hb⟩; have n0_ := Aside0.mk (below_step (by repeat (first | (with_reducible first | exact HB.out | apply below_alloc | apply pw_below_drewN | apply below_drew1) | exact HB.out)) hb); clear HB; have HB := n0_; clear n0_; (try clear hb); (try clear hb2); (try clear hk); (try clear hi)) | (go_at_call 29; (with_reducible refine (digest_Crc.calls a0 t274 _ A17.out).mono ?_); rintro e w' ⟨rfl, ⟨nd, rfl⟩⟩) | (go_at_call 35; (with_reducible refine (bourneref03_Crc.calls kj3 a0 t275 _ A18.out).mono ?_); rintro e w' ⟨rfl, ⟨nd, rfl⟩⟩))
    go_ret
    exact ⟨by first | rfl | (simp [errW_none, errW_some] <;> rfl) | (simp [*, errW_none, errW_some] <;> rfl), by repeat (first | (with_reducible first | exact HB.out | apply below_alloc | apply pw_below_drewN | apply below_drew1) | exact HB.out)⟩
   rw [if_pos c19] at H
   have c19b0 : (t274 == t275) = true := beq_iff_eq.mpr c19
   have c19b1 : (t274 != t275) = false := bne_eq_false_iff_eq.mpr c19
   clear c19
   replace H := Option.bind_eq_some_iff.mp H
   obtain ⟨t276, A200, H⟩ := H
   replace H : ((bourneref03_Hex.f kj3 a0).bind fun t277 => (if t276.toList = t277.toList then (if t266.toList = t268.toList then (some (t267 == t269)) else (some false)) else (some false))) = some r := H
   have A20 := Aside0.mk A200
   clear A200
   replace H := Option.bind_eq_some_iff.mp H
   obtain ⟨t277, A210, H⟩ := H
   replace H : (if t276.toList = t277.toList then (if t266.toList = t268.toList then (some (t267 == t269)) else (some false)) else (some false)) = some r := H
   have A21 := Aside0.mk A210
   clear A210
   by_cases c22 : t276.toList = t277.toList
   rotate_left
   ·rw [if_neg c22] at H
    have c22b0 : (t276.toList == t277.toList) = false := beq_eq_false_iff_ne.mpr c22
    have c22b1 : (t276.toList != t277.toList) = true := bne_iff_ne.mpr c22
    obtain rfl := Option.some.inj H
    go_wp2_with (first | ((with_reducible refine gate_callee (f := 27) rfl ?_); refine goesL_ (some 22) rfl rfl Tryd.func27 (by kernel_rfl) rfl #[.string a1] rfl (by (try simp only [List.map_toArray, List.map_cons, List.map_nil]); first | done | rfl | (simp only [List.length_drop, List.length_take]; rfl)) ?_; (with_reducible refine (digest_Unhex.calls a1 t266 t267 _ A8.out).mono ?_); rintro e w40 ⟨rfl, hb⟩; refine ⟨_, rfl, ?_⟩; have n0_ := Aside0.mk (below_step (by repeat (first | (with_reducible first | exact HB.out | apply below_alloc | apply pw_below_drewN | apply below_drew1) | exact HB.out)) hb); clear HB; have HB := n0_; clear n0_; (try clear hb); (try clear hb2); (try clear hk); (try clear hi)) | ((with_reducible refine gate_callee (f := 30) rfl ?_); refine goesL_ (some 27) rfl rfl Tryd.func30 (by kernel_rfl) rfl #[.string a1] rfl (by (try simp only [List.map_toArray, List.map_cons, List.map_nil]); first | done | rfl | (simp only [List.length_drop, List.length_take]; rfl)) ?_; (with_reducible refine (bourneref03_Unhex.calls kj3 a1 t268 t269 _ A9.out).mono ?_); rintro e w41 ⟨rfl, hb⟩; refine ⟨_, rfl, ?_⟩; have n0_ := Aside0.mk (below_step (by repeat (first | (with_reducible first | exact HB.out | apply below_alloc | apply pw_below_drewN | apply below_drew1) | exact HB.out)) hb); clear HB; have HB := n0_; clear n0_; (try clear hb); (try clear hb2); (try clear hk); (try clear hi)) | (go_at_call 31; (with_reducible refine (digest_Sum.calls a0 t270 _ ?side1 A11.out).mono ?_); (case side1 => first | exact hGD | exact DigW.below hGD (by repeat (first | (with_reducible first | exact HB.out | apply below_alloc | apply pw_below_drewN | apply below_drew1) | exact HB.out))); rintro e w42 ⟨rfl, hb⟩; have n0_ := Aside0.mk (below_step (by repeat (first | (with_reducible first | exact HB.out | apply below_alloc | apply pw_below_drewN | apply below_drew1) | exact HB.out)) hb); clear HB; have HB := n0_; clear n0_; (try clear hb); (try clear hb2); (try clear hk); (try clear hi)) | (go_at_call 32; (with_reducible refine (bourneref03_Sum.calls kj3 a0 t271 _ A12.out).mono ?_); rintro e w43 ⟨rfl, hb⟩; have n0_ := Aside0.mk (below_step (by repeat (first | (with_reducible first | exact HB.out | apply below_alloc | apply pw_below_drewN | apply below_drew1) | exact HB.out)) hb); clear HB; have HB := n0_; clear n0_; (try clear hb); (try clear hb2); (try clear hk); (try clear hi)) | (go_at_call 33; (with_reducible refine (digest_Short.calls a0 t272 _ ?side1 A14.out).mono ?_); (case side1 => first | exact hGD | exact DigW.below hGD (by repeat (first | (with_reducible first | exact HB.out | apply below_alloc | apply pw_below_drewN | apply below_drew1) | exact HB.out))); rintro e w44 ⟨rfl, hb⟩; have n0_ := Aside0.mk (below_step (by repeat (first | (with_reducible first | exact HB.out | apply below_alloc | apply pw_below_drewN | apply below_drew1) | exact HB.out)) hb); clear HB; have HB := n0_; clear n0_; (try clear hb); (try clear hb2); (try clear hk); (try clear hi)) | (go_at_call 34; (with_reducible refine (bourneref03_Short.calls kj3 a0 t273 _ A15.out).mono ?_); rintro e w45 ⟨rfl, hb⟩; have n0_ := Aside0.mk (below_step (by repeat (first | (with_reducible first | exact HB.out | apply below_alloc | apply pw_below_drewN | apply below_drew1) | exact HB.out)) hb); clear HB; have HB := n0_; clear n0_; (try clear hb); (try clear hb2); (try clear hk); (try clear hi)) | (go_at_call 29; (with_reducible refine (digest_Crc.calls a0 t274 _ A17.out).mono ?_); rintro e w' ⟨rfl, ⟨nd, rfl⟩⟩) | (go_at_call 35; (with_reducible refine (bourneref03_Crc.calls kj3 a0 t275 _ A18.out).mono ?_); rintro e w' ⟨rfl, ⟨nd, rfl⟩⟩) | (go_at_call 26; (with_reducible refine (digest_Hex.calls a0 t276 _ A20.out).mono ?_); rintro e w46 ⟨rfl, hb⟩; have n0_ := Aside0.mk (below_step (by repeat (first | (with_reducible first | exact HB.out | apply below_alloc | apply pw_below_drewN | apply below_drew1) | exact HB.out)) hb); clear HB; have HB := n0_; clear n0_; (try clear hb); (try clear hb2); (try clear hk); (try clear hi)) | (go_at_call 36; (with_reducible refine (bourneref03_Hex.calls kj3 a0 t277 _ A21.out).mono ?_); rintro e w47 ⟨rfl, hb⟩; have n0_ := Aside0.mk (below_step (by repeat (first | (with_reducible first | exact HB.out | apply below_alloc | apply pw_below_drewN | apply below_drew1) | exact HB.out)) hb); clear HB; have HB := n0_; clear n0_; (try clear hb); (try clear hb2); (try clear hk); (try clear hi)))
    go_ret
    exact ⟨by first | rfl | (simp [errW_none, errW_some] <;> rfl) | (simp [*, errW_none, errW_some] <;> rfl), by repeat (first | (with_reducible first | exact HB.out | apply below_alloc | apply pw_below_drewN | apply below_drew1) | exact HB.out)⟩
   rw [if_pos c22] at H
   have c22b0 : (t276.toList == t277.toList) = true := beq_iff_eq.mpr c22
   have c22b1 : (t276.toList != t277.toList) = false := bne_eq_false_iff_eq.mpr c22
   clear c22
   by_cases c23 : t266.toList = t268.toList
   rotate_left
   ·rw [if_neg c23] at H
    have c23b0 : (t266.toList == t268.toList) = false := beq_eq_false_iff_ne.mpr c23
    have c23b1 : (t266.toList != t268.toList) = true := bne_iff_ne.mpr c23
    obtain rfl := Option.some.inj H
    go_wp2_with (first | ((with_reducible refine gate_callee (f := 27) rfl ?_); refine goesL_ (some 22) rfl rfl Tryd.func27 (by kernel_rfl) rfl #[.string a1] rfl (by (try simp only [List.map_toArray, List.map_cons, List.map_nil]); first | done | rfl | (simp only [List.length_drop, List.length_take]; rfl)) ?_; (with_reducible refine (digest_Unhex.calls a1 t266 t267 _ A8.out).mono ?_); rintro e w32 ⟨rfl, hb⟩; refine ⟨_, rfl, ?_⟩; have n0_ := Aside0.mk (below_step (by repeat (first | (with_reducible first | exact HB.out | apply below_alloc | apply pw_below_drewN | apply below_drew1) | exact HB.out)) hb); clear HB; have HB := n0_; clear n0_; (try clear hb); (try clear hb2); (try clear hk); (try clear hi)) | ((with_reducible refine gate_callee (f := 30) rfl ?_); refine goesL_ (some 27) rfl rfl Tryd.func30 (by kernel_rfl) rfl #[.string a1] rfl (by (try simp only [List.map_toArray, List.map_cons, List.map_nil]); first | done | rfl | (simp only [List.length_drop, List.length_take]; rfl)) ?_; (with_reducible refine (bourneref03_Unhex.calls kj3 a1 t268 t269 _ A9.out).mono ?_); rintro e w33 ⟨rfl, hb⟩; refine ⟨_, rfl, ?_⟩; have n0_ := Aside0.mk (below_step (by repeat (first | (with_reducible first | exact HB.out | apply below_alloc | apply pw_below_drewN | apply below_drew1) | exact HB.out)) hb); clear HB; have HB := n0_; clear n0_; (try clear hb); (try clear hb2); (try clear hk); (try clear hi)) | (go_at_call 31; (with_reducible refine (digest_Sum.calls a0 t270 _ ?side1 A11.out).mono ?_); (case side1 => first | exact hGD | exact DigW.below hGD (by repeat (first | (with_reducible first | exact HB.out | apply below_alloc | apply pw_below_drewN | apply below_drew1) | exact HB.out))); rintro e w34 ⟨rfl, hb⟩; have n0_ := Aside0.mk (below_step (by repeat (first | (with_reducible first | exact HB.out | apply below_alloc | apply pw_below_drewN | apply below_drew1) | exact HB.out)) hb); clear HB; have HB := n0_; clear n0_; (try clear hb); (try clear hb2); (try clear hk); (try clear hi)) | (go_at_call 32; (with_reducible refine (bourneref03_Sum.calls kj3 a0 t271 _ A12.out).mono ?_); rintro e w35 ⟨rfl, hb⟩; have n0_ := Aside0.mk (below_step (by repeat (first | (with_reducible first | exact HB.out | apply below_alloc | apply pw_below_drewN | apply below_drew1) | exact HB.out)) hb); clear HB; have HB := n0_; clear n0_; (try clear hb); (try clear hb2); (try clear hk); (try clear hi)) | (go_at_call 33; (with_reducible refine (digest_Short.calls a0 t272 _ ?side1 A14.out).mono ?_); (case side1 => first | exact hGD | exact DigW.below hGD (by repeat (first | (with_reducible first | exact HB.out | apply below_alloc | apply pw_below_drewN | apply below_drew1) | exact HB.out))); rintro e w36 ⟨rfl, hb⟩; have n0_ := Aside0.mk (below_step (by repeat (first | (with_reducible first | exact HB.out | apply below_alloc | apply pw_below_drewN | apply below_drew1) | exact HB.out)) hb); clear HB; have HB := n0_; clear n0_; (try clear hb); (try clear hb2); (try clear hk); (try clear hi)) | (go_at_call 34; (with_reducible refine (bourneref03_Short.calls kj3 a0 t273 _ A15.out).mono ?_); rintro e w37 ⟨rfl, hb⟩; have n0_ := Aside0.mk (below_step (by repeat (first | (with_reducible first | exact HB.out | apply below_alloc | apply pw_below_drewN | apply below_drew1) | exact HB.out)) hb); clear HB; have HB := n0_; clear n0_; (try clear hb); (try clear hb2); (try clear hk); (try clear hi)) | (go_at_call 29; (with_reducible refine (digest_Crc.calls a0 t274 _ A17.out).mono ?_); rintro e w' ⟨rfl, ⟨nd, rfl⟩⟩) | (go_at_call 35; (with_reducible refine (bourneref03_Crc.calls kj3 a0 t275 _ A18.out).mono ?_); rintro e w' ⟨rfl, ⟨nd, rfl⟩⟩) | (go_at_call 26; (with_reducible refine (digest_Hex.calls a0 t276 _ A20.out).mono ?_); rintro e w38 ⟨rfl, hb⟩; have n0_ := Aside0.mk (below_step (by repeat (first | (with_reducible first | exact HB.out | apply below_alloc | apply pw_below_drewN | apply below_drew1) | exact HB.out)) hb); clear HB; have HB := n0_; clear n0_; (try clear hb); (try clear hb2); (try clear hk); (try clear hi)) | (go_at_call 36; (with_reducible refine (bourneref03_Hex.calls kj3 a0 t277 _ A21.out).mono ?_); rintro e w39 ⟨rfl, hb⟩; have n0_ := Aside0.mk (below_step (by repeat (first | (with_reducible first | exact HB.out | apply below_alloc | apply pw_below_drewN | apply below_drew1) | exact HB.out)) hb); clear HB; have HB := n0_; clear n0_; (try clear hb); (try clear hb2); (try clear hk); (try clear hi)))
    go_ret
    exact ⟨by first | rfl | (simp [errW_none, errW_some] <;> rfl) | (simp [*, errW_none, errW_some] <;> rfl), by repeat (first | (with_reducible first | exact HB.out | apply below_alloc | apply pw_below_drewN | apply below_drew1) | exact HB.out)⟩
   rw [if_pos c23] at H
   have c23b0 : (t266.toList == t268.toList) = true := beq_iff_eq.mpr c23
   have c23b1 : (t266.toList != t268.toList) = false := bne_eq_false_iff_eq.mpr c23
   clear c23
   obtain rfl := Option.some.inj H
   go_wp2_with (first | ((with_reducible refine gate_callee (f := 27) rfl ?_); refine goesL_ (some 22) rfl rfl Tryd.func27 (by kernel_rfl) rfl #[.string a1] rfl (by (try simp only [List.map_toArray, List.map_cons, List.map_nil]); first | done | rfl | (simp only [List.length_drop, List.length_take]; rfl)) ?_; (with_reducible refine (digest_Unhex.calls a1 t266 t267 _ A8.out).mono ?_); rintro e w24 ⟨rfl, hb⟩; refine ⟨_, rfl, ?_⟩; have n0_ := Aside0.mk (below_step (by repeat (first | (with_reducible first | exact HB.out | apply below_alloc | apply pw_below_drewN | apply below_drew1) | exact HB.out)) hb); clear HB; have HB := n0_; clear n0_; (try clear hb); (try clear hb2); (try clear hk); (try clear hi)) | ((with_reducible refine gate_callee (f := 30) rfl ?_); refine goesL_ (some 27) rfl rfl Tryd.func30 (by kernel_rfl) rfl #[.string a1] rfl (by (try simp only [List.map_toArray, List.map_cons, List.map_nil]); first | done | rfl | (simp only [List.length_drop, List.length_take]; rfl)) ?_; (with_reducible refine (bourneref03_Unhex.calls kj3 a1 t268 t269 _ A9.out).mono ?_); rintro e w25 ⟨rfl, hb⟩; refine ⟨_, rfl, ?_⟩; have n0_ := Aside0.mk (below_step (by repeat (first | (with_reducible first | exact HB.out | apply below_alloc | apply pw_below_drewN | apply below_drew1) | exact HB.out)) hb); clear HB; have HB := n0_; clear n0_; (try clear hb); (try clear hb2); (try clear hk); (try clear hi)) | (go_at_call 31; (with_reducible refine (digest_Sum.calls a0 t270 _ ?side1 A11.out).mono ?_); (case side1 => first | exact hGD | exact DigW.below hGD (by repeat (first | (with_reducible first | exact HB.out | apply below_alloc | apply pw_below_drewN | apply below_drew1) | exact HB.out))); rintro e w26 ⟨rfl, hb⟩; have n0_ := Aside0.mk (below_step (by repeat (first | (with_reducible first | exact HB.out | apply below_alloc | apply pw_below_drewN | apply below_drew1) | exact HB.out)) hb); clear HB; have HB := n0_; clear n0_; (try clear hb); (try clear hb2); (try clear hk); (try clear hi)) | (go_at_call 32; (with_reducible refine (bourneref03_Sum.calls kj3 a0 t271 _ A12.out).mono ?_); rintro e w27 ⟨rfl, hb⟩; have n0_ := Aside0.mk (below_step (by repeat (first | (with_reducible first | exact HB.out | apply below_alloc | apply pw_below_drewN | apply below_drew1) | exact HB.out)) hb); clear HB; have HB := n0_; clear n0_; (try clear hb); (try clear hb2); (try clear hk); (try clear hi)) | (go_at_call 33; (with_reducible refine (digest_Short.calls a0 t272 _ ?side1 A14.out).mono ?_); (case side1 => first | exact hGD | exact DigW.below hGD (by repeat (first | (with_reducible first | exact HB.out | apply below_alloc | apply pw_below_drewN | apply below_drew1) | exact HB.out))); rintro e w28 ⟨rfl, hb⟩; have n0_ := Aside0.mk (below_step (by repeat (first | (with_reducible first | exact HB.out | apply below_alloc | apply pw_below_drewN | apply below_drew1) | exact HB.out)) hb); clear HB; have HB := n0_; clear n0_; (try clear hb); (try clear hb2); (try clear hk); (try clear hi)) | (go_at_call 34; (with_reducible refine (bourneref03_Short.calls kj3 a0 t273 _ A15.out).mono ?_); rintro e w29 ⟨rfl, hb⟩; have n0_ := Aside0.mk (below_step (by repeat (first | (with_reducible first | exact HB.out | apply below_alloc | apply pw_below_drewN | apply below_drew1) | exact HB.out)) hb); clear HB; have HB := n0_; clear n0_; (try clear hb); (try clear hb2); (try clear hk); (try clear hi)) | (go_at_call 29; (with_reducible refine (digest_Crc.calls a0 t274 _ A17.out).mono ?_); rintro e w' ⟨rfl, ⟨nd, rfl⟩⟩) | (go_at_call 35; (with_reducible refine (bourneref03_Crc.calls kj3 a0 t275 _ A18.out).mono ?_); rintro e w' ⟨rfl, ⟨nd, rfl⟩⟩) | (go_at_call 26; (with_reducible refine (digest_Hex.calls a0 t276 _ A20.out).mono ?_); rintro e w30 ⟨rfl, hb⟩; have n0_ := Aside0.mk (below_step (by repeat (first | (with_reducible first | exact HB.out | apply below_alloc | apply pw_below_drewN | apply below_drew1) | exact HB.out)) hb); clear HB; have HB := n0_; clear n0_; (try clear hb); (try clear hb2); (try clear hk); (try clear hi)) | (go_at_call 36; (with_reducible refine (bourneref03_Hex.calls kj3 a0 t277 _ A21.out).mono ?_); rintro e w31 ⟨rfl, hb⟩; have n0_ := Aside0.mk (below_step (by repeat (first | (with_reducible first | exact HB.out | apply below_alloc | apply pw_below_drewN | apply below_drew1) | exact HB.out)) hb); clear HB; have HB := n0_; clear n0_; (try clear hb); (try clear hb2); (try clear hk); (try clear hi)))
   go_ret
   exact ⟨by first | rfl | (simp [errW_none, errW_some] <;> rfl) | (simp [*, errW_none, errW_some] <;> rfl), by repeat (first | (with_reducible first | exact HB.out | apply below_alloc | apply pw_below_drewN | apply below_drew1) | exact HB.out)⟩

/-- THE ONE PURE STATEMENT of bournelaw03_DigestTells: yours. -/
def bournelaw03_DigestTells.Pure : Prop := ∀ (a0 : ByteArray) (a1 : ByteArray), a0.size ≤ 140737488351232 → a1.size ≤ 140737488351232 → ∃ k, bournelaw03_DigestTells.f k a0 a1 = some true
theorem bournelaw03_DigestTells.walk (P : bournelaw03_DigestTells.Pure) (a0 : ByteArray) (a1 : ByteArray) (w : World) (w0 : a0.size ≤ 140737488351232) (w1 : a1.size ≤ 140737488351232) (hGD : DigW w) :
  Calls Tryd.prog 7 #[.string a0, .string a1] w fun e w' => e = .returned (.bool true) ∧ Below w.heap.size w w' := by
 obtain ⟨k, h⟩ := P a0 a1 w0 w1
 refine (bournelaw03_DigestTells.calls k a0 a1 true w hGD h).mono ?_
 rintro e w' ⟨rfl, hd⟩
 exact ⟨rfl, hd⟩

end Go.Proofs.YtdgejkiackeieaaDoor.PDigestTells
end
section
/- What the reference's Sum, Short, Crc, Hex and Unhex compute, in the words of the program's own specifications. -/
set_option linter.unusedVariables false
set_option linter.unusedSimpArgs false
namespace Go.Proofs.YtdgejkiackeieaaDoor.RefA
open Go.RowKit Go.Proofs.YtdgejkiackeieaaDoor Go.Proofs.YtdgejkiackeieaaDoor.PDigestTells Go.Proofs.YtdgejkiackeieaaDoorW.PrintWords Go.Proofs.YtdgejkiackeieaaDoorW.PrintMore
theorem str_uh (l : List UInt8) : strOfNums (uh l) = ⟨l.toArray⟩ := by
  apply ba_ext
  rw [strOfNums_data, uh, List.map_map]
  show _ = l
  conv => rhs; rw [← List.map_id l]
  exact List.map_congr_left (fun c _ => by simp)
theorem uh_length (l : List UInt8) : (uh l).length = l.length := List.length_map ..
theorem uh_append (a b : List UInt8) : uh (a ++ b) = uh a ++ uh b := List.map_append ..
/-! Sum -/
theorem word_bytes (x : Int) (h0 : 0 ≤ x) (h1 : x < 4294967296) :
    [(Int.tmod x 256) % 256, ((Int.tdiv x 256) % 4294967296) % 256, ((Int.tdiv x 65536) % 4294967296) % 256, ((Int.tdiv x 16777216) % 4294967296) % 256] = uh (wordBytes x) := by
  rw [Int.tmod_eq_emod_of_nonneg h0, Int.tdiv_eq_ediv_of_nonneg h0, Int.tdiv_eq_ediv_of_nonneg h0, Int.tdiv_eq_ediv_of_nonneg h0]
  unfold uh wordBytes
  simp only [List.map_cons, List.map_nil, UInt8.toNat_ofNat']
  refine congr (congrArg List.cons ?_) (congr (congrArg List.cons ?_) (congr (congrArg List.cons ?_) (congr (congrArg List.cons ?_) rfl)))
  all_goals omega
theorem sum_out (H : List Int) (hH : H.length = 8) (hr : ∀ i, i < 8 → 0 ≤ el H i ∧ el H i < 4294967296) (d : Nat) : ∀ (i k : Nat), i + d = 8 →
    bourneref03_Sum.l1 (k + d + 1) H (uh ((H.take i).flatMap wordBytes)) i = some ⟨(H.flatMap wordBytes).toArray⟩ := by
  have hfl : ∀ l : List Int, (l.flatMap wordBytes).length = 4 * l.length := by
    intro l
    induction l with
    | nil => rfl
    | cons x l ih => simp only [List.flatMap_cons, List.length_append, ih, List.length_cons, wordBytes, List.length_map, List.length_nil]; omega
  induction d with
  | zero =>
    intro i k hi
    obtain rfl : i = 8 := by omega
    rw [bourneref03_Sum.l1, if_neg (by decide), List.take_of_length_le (by omega), str_uh]
  | succ d ih =>
    intro i k hi
    have w2 : wrap64 ((i : Int) + 1) = ((i + 1 : Nat) : Int) := by unfold wrap64; omega
    obtain ⟨h0, h1⟩ := hr i (by omega)
    rw [← Nat.add_assoc, bourneref03_Sum.l1, if_pos (by omega), if_pos (by omega), if_pos (by omega), rd_el, word_bytes _ h0 h1, Option.bind_some, if_pos (by
      rw [uh_length, uh_length, hfl, List.length_take]
      simp only [wordBytes, List.length_map, List.length_cons, List.length_nil]
      omega), w2, ← uh_append]
    have e : (H.take i).flatMap wordBytes ++ wordBytes (el H i) = (H.take (i + 1)).flatMap wordBytes := by
      rw [take_el _ i (by omega), List.flatMap_append]
      simp
    rw [e]
    exact ih (i + 1) k (by omega)
theorem compressI_range (H : List Int) (hH : H.length = 8) (s : ByteArray) (n : Nat) (last : Bool) : ∀ i, i < 8 → 0 ≤ el (compressI H s n last) i ∧ el (compressI H s n last) i < 4294967296 := by
  intro i hi
  unfold compressI
  rw [finI_el H _ hH 8 (by omega) i hi, if_pos hi]
  exact xorI_range _ _
theorem sumH_range (f : Nat) : ∀ (H : List Int) (s : ByteArray) (e : Nat), H.length = 8 → ∀ i, i < 8 → 0 ≤ el (sumH f H s e) i ∧ el (sumH f H s e) i < 4294967296 := by
  induction f with
  | zero => intro H s e hH; exact compressI_range H hH _ _ _
  | succ f ih =>
    intro H s e hH
    rw [sumH]
    split
    · exact ih _ _ _ (by rw [compressI_length, hH])
    · exact compressI_range H hH _ _ _
theorem extract_extract (s : ByteArray) (a c d : Nat) (h : a + d ≤ s.size) : (s.extract a s.size).extract c d = s.extract (a + c) (a + d) := by
  apply ba_ext
  rw [Lib.extract_data, Lib.extract_data, Lib.extract_data, List.drop_take, List.drop_drop, List.take_take, show min (d - c) (s.size - a - c) = a + d - (a + c) by omega]
theorem sum_chain (s : ByteArray) (hs : s.size ≤ 900000) (f : Nat) : ∀ (at0 : Nat) (H : List Int) (K : Nat), at0 ≤ s.size → s.size ≤ at0 + 64 * (f + 1) → H.length = 8 → f + 80 ≤ K →
    ((bourneref03_compress.f K H s at0).bind fun t => bourneref03_Sum.l0 K s t (wrap64 ((at0 : Int) + 64))) = some ⟨((sumH f H (s.extract at0 s.size) at0).flatMap wordBytes).toArray⟩ := by
  have stop : ∀ (f at0 : Nat) (H : List Int) (K : Nat), at0 ≤ s.size → s.size ≤ at0 + 64 → H.length = 8 → 80 ≤ K →
      ((bourneref03_compress.f K H s at0).bind fun t => bourneref03_Sum.l0 K s t (wrap64 ((at0 : Int) + 64))) = some ⟨((sumH f H (s.extract at0 s.size) at0).flatMap wordBytes).toArray⟩ := by
    intro f at0 H K ha hl hH hK
    obtain ⟨k, rfl⟩ : ∃ k, K = k + 60 := ⟨K - 60, by omega⟩
    have hz : (s.extract at0 s.size).size = s.size - at0 := by rw [ByteArray.size_extract]; omega
    rw [compress_eq H hH s hs at0 ha s.size (by omega) k, Option.bind_some, wrap64_id (by omega) (by omega), decide_eq_true rfl]
    obtain ⟨m, rfl⟩ : ∃ m, k = m + 20 := ⟨k - 20, by omega⟩
    rw [show m + 20 + 60 = (m + 70 + 8 + 1) + 1 by omega, bourneref03_Sum.l0, if_neg (by omega)]
    have he : sumH f H (s.extract at0 s.size) at0 = compressI H (s.extract at0 s.size) s.size true := by
      cases f with
      | zero => rw [sumH, hz, show at0 + (s.size - at0) = s.size by omega]
      | succ f => rw [sumH, if_neg (by omega), hz, show at0 + (s.size - at0) = s.size by omega]
    rw [he]
    have := sum_out (compressI H (s.extract at0 s.size) s.size true) (by rw [compressI_length, hH]) (compressI_range H hH _ _ _) 8 0 (m + 70) (by omega)
    exact this
  induction f with
  | zero => intro at0 H K ha hl hH hK; exact stop 0 at0 H K ha (by omega) hH (by omega)
  | succ f ih =>
    intro at0 H K ha hl hH hK
    by_cases hlt : at0 + 64 < s.size
    · obtain ⟨k, rfl⟩ : ∃ k, K = k + 60 := ⟨K - 60, by omega⟩
      have hz : (s.extract at0 s.size).size = s.size - at0 := by rw [ByteArray.size_extract]; omega
      rw [compress_eq H hH s hs at0 ha (at0 + 64) (by omega) k, Option.bind_some, wrap64_id (by omega) (by omega), decide_eq_false (by omega)]
      rw [show k + 60 = (k + 59) + 1 by omega, bourneref03_Sum.l0, if_pos (by omega)]
      have := ih (at0 + 64) (compressI H (s.extract at0 (at0 + 64)) (at0 + 64) false) (k + 59) (by omega) (by omega) (by rw [compressI_length, hH]) (by omega)
      rw [show ((at0 : Int) + 64) = ((at0 + 64 : Nat) : Int) by omega, this]
      rw [sumH, if_pos (by omega), hz, extract_extract s at0 0 64 (by omega), extract_extract s at0 64 (s.size - at0) (by omega), show at0 + (s.size - at0) = s.size by omega]
      rfl
    · exact stop (f + 1) at0 H K ha (by omega) hH (by omega)
theorem sum_eq (s : ByteArray) (hs : s.size ≤ 900000) : bourneref03_Sum.f (s.size + 80) s = some ⟨(sumBytes s).toArray⟩ := by
  have h := sum_chain s hs s.size 0 sum0 (s.size + 80) (by omega) (by omega) (by decide) (Nat.le_refl _)
  have e0 : s.extract 0 s.size = s := by apply ba_ext; rw [Lib.extract_data, List.drop_zero, List.take_of_length_le (by rw [size_len]; omega)]
  rw [e0] at h
  unfold bourneref03_Sum.f
  have hc : bourneref03_constants.f = some firstI := rfl
  rw [show wrap64 (((0 : Nat) : Int) + 64) = 64 by decide +kernel] at h
  rw [hc, Option.bind_some, if_pos (by decide)]
  exact h
/-! Short -/
theorem short_loop (S : ByteArray) (hS : S.size = 32) (d : Nat) : ∀ (i k : Nat), i + d = 7 →
    bourneref03_Short.l0 (k + d + 1) S (bigN (S.data.toList.take i) : Int) i = some ((bigN (S.data.toList.take 8) / 16 : Nat) : Int) := by
  have hl : S.data.toList.length = 32 := by rw [size_len, hS]
  have hlt : ∀ i, i ≤ 7 → bigN (S.data.toList.take i) < 72057594037927936 := by
    intro i hi
    refine Nat.lt_of_lt_of_le (bigN_lt _) ?_
    rw [show (72057594037927936 : Nat) = 256 ^ 7 by decide]
    exact Nat.pow_le_pow_right (by decide) (by rw [List.length_take]; omega)
  induction d with
  | zero =>
    intro i k hi
    obtain rfl : i = 7 := by omega
    have h7 := hlt 7 (by omega)
    have hc := (S.data.toList[7]'(by omega)).toNat_lt
    have hT : bigN (S.data.toList.take 8) = bigN (S.data.toList.take 7) * 256 + (S.data.toList[7]'(by omega)).toNat := by
      rw [List.take_succ_eq_append_getElem (by omega), bigN_snoc]
    have hb : bt S 7 = ((S.data.toList[7]'(by omega)).toNat : Int) := byteInt S 7 (by omega)
    rw [bourneref03_Short.l0, if_neg (by decide), if_pos (by omega), hb, hT, wrap64_id (x := ((S.data.toList[7]'(by omega)).toNat : Int)) (by omega) (by omega), Int.tdiv_eq_ediv_of_nonneg (by omega),
      wrap64_id (x := ((S.data.toList[7]'(by omega)).toNat : Int) / 16) (by omega) (by omega), wrap64_id (x := (bigN (S.data.toList.take 7) : Int) * 16) (by omega) (by omega), wrap64_id (by omega) (by omega)]
    congr 1
    omega
  | succ d ih =>
    intro i k hi
    have h7 := hlt i (by omega)
    have hc := (S.data.toList[i]'(by omega)).toNat_lt
    have hT : bigN (S.data.toList.take (i + 1)) = bigN (S.data.toList.take i) * 256 + (S.data.toList[i]'(by omega)).toNat := by
      rw [List.take_succ_eq_append_getElem (by omega), bigN_snoc]
    have h8 : bigN (S.data.toList.take i) < 281474976710656 := by
      refine Nat.lt_of_lt_of_le (bigN_lt _) ?_
      rw [show (281474976710656 : Nat) = 256 ^ 6 by decide]
      exact Nat.pow_le_pow_right (by decide) (by rw [List.length_take]; omega)
    rw [← Nat.add_assoc, bourneref03_Short.l0, if_pos (by omega), if_pos (by omega), if_pos (by omega), byteInt S i (by omega), wrap64_id (x := ((S.data.toList[i]'(by omega)).toNat : Int)) (by omega) (by omega),
      wrap64_id (x := (bigN (S.data.toList.take i) : Int) * 256) (by omega) (by omega), wrap64_id (x := (bigN (S.data.toList.take i) : Int) * 256 + _) (by omega) (by omega), wrap64_id (x := (i : Int) + 1) (by omega) (by omega)]
    have := ih (i + 1) k (by omega)
    rw [hT] at this
    exact this
theorem short_eq (s : ByteArray) (hs : s.size ≤ 900000) : bourneref03_Short.f (s.size + 80) s = some (shortN s : Int) := by
  unfold bourneref03_Short.f
  rw [sum_eq s hs, Option.bind_some]
  have hS : ByteArray.size ⟨(sumBytes s).toArray⟩ = 32 := by show (sumBytes s).toArray.size = 32; rw [List.size_toArray, sumBytes_length]
  have := short_loop ⟨(sumBytes s).toArray⟩ hS 7 0 (s.size + 72) (by omega)
  exact this
/-! Crc -/
theorem i64_xor_nat (a b : Nat) (ha : a < 65536) (hb : b < 65536) : Go.bits .xor .i64 (a : Int) (b : Int) = ((a ^^^ b : Nat) : Int) := by
  have hx : a ^^^ b < 65536 := Nat.xor_lt_two_pow (n := 16) ha hb
  have e1 : (BitVec.ofInt 64 (a : Int)).toNat = a := ofInt_u64 a (by omega)
  have e2 : (BitVec.ofInt 64 (b : Int)).toNat = b := ofInt_u64 b (by omega)
  show IntKind.i64.wrap (((BitVec.ofInt 64 (a : Int) ^^^ BitVec.ofInt 64 (b : Int)).toNat : Nat) : Int) = _
  rw [BitVec.toNat_xor, e1, e2, IntKind.wrap_i64]
  omega
theorem crc1 (s : ByteArray) (i4 : Int) (d : Nat) : ∀ (k x j : Nat), x < 65536 → j + d = 8 → bourneref03_Crc.l1 (k + d + 1) s x i4 j = bourneref03_Crc.l0 k s (Crc.steps d x : Nat) (wrap64 (i4 + 1)) := by
  induction d with
  | zero =>
    intro k x j hx hj
    rw [bourneref03_Crc.l1, if_neg (by omega)]
    rfl
  | succ d ih =>
    intro k x j hx hj
    have ew : wrap64 ((j : Int) + 1) = ((j + 1 : Nat) : Int) := by unfold wrap64; omega
    have h2 : wrap64 (Int.tdiv (x : Int) 2) = ((x / 2 : Nat) : Int) := by rw [Int.tdiv_eq_ediv_of_nonneg (by omega)]; unfold wrap64; omega
    rw [show k + (d + 1) + 1 = (k + d + 1) + 1 by omega, bourneref03_Crc.l1, if_pos (by omega), Int.tmod_eq_emod_of_nonneg (by omega), ew, h2]
    have hs : Crc.steps (d + 1) x = Crc.steps d (Crc.step x) := rfl
    rw [hs]
    by_cases ho : x % 2 = 1
    · have e : Go.bits .xor .i64 ((x / 2 : Nat) : Int) 33800 = ((Crc.step x : Nat) : Int) := by
        have := i64_xor_nat (x / 2) 33800 (by omega) (by decide)
        rw [show ((33800 : Nat) : Int) = 33800 from rfl] at this
        rw [this, Crc.step, if_pos ho]
      rw [if_pos (by omega), e]
      exact ih k _ (j + 1) (Crc.step_lt hx) (by omega)
    · have e : x / 2 = Crc.step x := by rw [Crc.step, if_neg ho]
      rw [if_neg (by omega), e]
      exact ih k _ (j + 1) (Crc.step_lt hx) (by omega)
theorem crc0 (s : ByteArray) (hs : s.size ≤ 1000000) (d : Nat) : ∀ (x i : Nat), x < 65536 → i + d = s.size → ∃ k, bourneref03_Crc.l0 k s x i = some ((65535 ^^^ Crc.reg x ((nb s).drop i) : Nat) : Int) := by
  induction d with
  | zero =>
    intro x i hx hi
    refine ⟨1, ?_⟩
    have e : (nb s).drop i = [] := by rw [List.drop_eq_nil_iff, nb_length]; omega
    have := i64_xor_nat x 65535 hx (by decide)
    rw [show ((65535 : Nat) : Int) = 65535 from rfl] at this
    rw [bourneref03_Crc.l0, if_neg (by omega), e, this, Nat.xor_comm]
    rfl
  | succ d ih =>
    intro x i hx hi
    have hlt : i < s.size := by omega
    have hg : (nb s)[i]'(by rw [nb_length]; exact hlt) < 256 := nb_lt s _ (List.getElem_mem _)
    have hxx : x ^^^ (nb s)[i]'(by rw [nb_length]; exact hlt) < 65536 := Nat.xor_lt_two_pow (n := 16) hx (by omega)
    obtain ⟨k, hk⟩ := ih (Crc.steps 8 (x ^^^ (nb s)[i]'(by rw [nb_length]; exact hlt))) (i + 1) (Crc.steps_lt 8 hxx) (by omega)
    refine ⟨(k + 8 + 1) + 1, ?_⟩
    rw [bourneref03_Crc.l0, if_pos (by omega), if_pos (by omega), nb_get s i hlt, wrap64_id (x := (((nb s)[i]'(by rw [nb_length]; exact hlt) : Nat) : Int)) (by omega) (by omega), i64_xor_nat x _ hx (by omega)]
    have := crc1 s (i : Int) 8 k (x ^^^ (nb s)[i]'(by rw [nb_length]; exact hlt)) 0 hxx rfl
    rw [show ((0 : Nat) : Int) = 0 from rfl] at this
    have ed : (nb s).drop i = (nb s)[i]'(by rw [nb_length]; exact hlt) :: (nb s).drop (i + 1) := List.drop_eq_getElem_cons (by rw [nb_length]; exact hlt)
    rw [this, show wrap64 ((i : Int) + 1) = ((i + 1 : Nat) : Int) by unfold wrap64; omega, hk, ed]
    rfl
theorem crc_eq (s : ByteArray) (hs : s.size ≤ 1000000) : ∃ k, bourneref03_Crc.f k s = some (crcN (nb s) : Int) := by
  obtain ⟨k, hk⟩ := crc0 s hs s.size 65535 0 (by decide) (by omega)
  exact ⟨k, hk⟩
/-! Hex, Unhex -/
theorem digit_eq : ∀ n : Nat, n < 16 → bourneref03_digit.f (n : Int) = some ((dig n).toNat : Int) := by
  have : ∀ n : Fin 16, bourneref03_digit.f (n.val : Int) = some ((dig n.val).toNat : Int) := by decide +kernel
  exact fun n h => this ⟨n, h⟩
theorem hex_loop (s : ByteArray) (hs : s.size ≤ 1000000) (d : Nat) : ∀ (i k : Nat), i + d = s.size →
    bourneref03_Hex.l0 (k + d + 1) s (uh (hexL (s.data.toList.take i))) i = some ⟨(hexL s.data.toList).toArray⟩ := by
  induction d with
  | zero =>
    intro i k hi
    rw [bourneref03_Hex.l0, if_neg (by omega), List.take_of_length_le (by rw [size_len]; omega), str_uh]
  | succ d ih =>
    intro i k hi
    have hlt : i < s.size := by omega
    have hl : i < s.data.toList.length := by rw [size_len]; exact hlt
    have hc := (s.data.toList[i]'hl).toNat_lt
    have hT : hexL (s.data.toList.take (i + 1)) = hexL (s.data.toList.take i) ++ [dig ((s.data.toList[i]'hl).toNat / 16), dig ((s.data.toList[i]'hl).toNat % 16)] := by
      rw [List.take_succ_eq_append_getElem hl]; simp [hexL]
    have d1 : Int.tdiv (wrap64 ((s.data.toList[i]'hl).toNat : Int)) 16 = (((s.data.toList[i]'hl).toNat / 16 : Nat) : Int) := by
      rw [wrap64_id (by omega) (by omega), Int.tdiv_eq_ediv_of_nonneg (by omega)]; omega
    have d2 : Int.tmod (wrap64 ((s.data.toList[i]'hl).toNat : Int)) 16 = (((s.data.toList[i]'hl).toNat % 16 : Nat) : Int) := by
      rw [wrap64_id (by omega) (by omega), Int.tmod_eq_emod_of_nonneg (by omega)]; omega
    rw [← Nat.add_assoc, bourneref03_Hex.l0, if_pos (by omega), if_pos (by omega), byteInt s i hlt, d1, d2, wrap64_id (x := (((s.data.toList[i]'hl).toNat / 16 : Nat) : Int)) (by omega) (by omega), digit_eq _ (by omega), Option.bind_some, digit_eq _ (by omega), Option.bind_some, Option.bind_some,
      if_pos (by rw [uh_length, hexL_length, List.length_take]; simp only [List.length_cons, List.length_nil]; omega), wrap64_id (x := (i : Int) + 1) (by omega) (by omega)]
    have := ih (i + 1) k (by omega)
    rw [hT, uh_append] at this
    exact this
theorem hex_eq (s : ByteArray) (hs : s.size ≤ 1000000) : bourneref03_Hex.f (s.size + 1) s = some ⟨(hexL s.data.toList).toArray⟩ := by
  have := hex_loop s hs s.size 0 0 (by omega)
  rw [Nat.zero_add] at this
  exact this
theorem unhex_eq (s : ByteArray) (hs : s.size ≤ 1000000) : ∃ k, bourneref03_Unhex.f k s = some (unhexR s.data.toList) := by
  by_cases ho : s.size % 2 = 1
  · refine ⟨0, ?_⟩
    unfold bourneref03_Unhex.f
    rw [if_pos (by omega), unhexR, unhexL_odd _ (by rw [size_len]; exact ho)]
  · obtain ⟨k, hk⟩ := unhex_loop s hs (by omega) (s.size / 2) 0 [] (by omega) rfl
    refine ⟨k, ?_⟩
    unfold bourneref03_Unhex.f
    rw [if_neg (by omega)]
    refine hk.trans ?_
    rw [List.drop_zero, unhexR]
    cases hu : unhexL s.data.toList with
    | none => rfl
    | some r => simp only [List.nil_append, str_uh]
end Go.Proofs.YtdgejkiackeieaaDoor.RefA
end
section
/- The plain law of DigestTells: what the printed functions compute answers true for every input (no condition but the printed bounds). -/
set_option linter.unusedVariables false
set_option linter.unusedSimpArgs false
namespace Go.Proofs.YtdgejkiackeieaaDoor.Pure
open Go.RowKit Go.Proofs.YtdgejkiackeieaaDoor.PDigestTells Go.Proofs.YtdgejkiackeieaaDoor Go.Proofs.YtdgejkiackeieaaDoorW.PrintWords
theorem lift_ {α : Type} {f : Nat → Option α} (hm : ∀ k, LeO (f k) (f (k + 1))) {k : Nat} {r : α} (h : f k = some r) (d : Nat) : f (k + d) = some r := by
  induction d with
  | zero => exact h
  | succ d ih => exact hm _ _ ih
theorem DigestTells : bournelaw03_DigestTells.Pure := by
  intro a0 a1 h0 h1
  by_cases hs : a0.size ≤ 2000 ∧ a1.size ≤ 2000
  · obtain ⟨hs0, hs1⟩ := hs
    obtain ⟨k1, e1⟩ := RefA.unhex_eq a1 (by omega)
    obtain ⟨k2, e2⟩ := RefA.crc_eq a0 (by omega)
    have e3 := RefA.sum_eq a0 (by omega)
    have e4 := RefA.short_eq a0 (by omega)
    have e5 := RefA.hex_eq a0 (by omega)
    refine ⟨(k1 + k2 + (a0.size + 80)) + 1, ?_⟩
    have g1 : bourneref03_Unhex.f (k1 + k2 + (a0.size + 80)) a1 = some (unhexR a1.data.toList) := by
      have := lift_ (f := fun k => bourneref03_Unhex.f k a1) (fun k => bourneref03_Unhex.mono _ _) e1 (k2 + (a0.size + 80))
      rwa [← Nat.add_assoc] at this
    have g2 : bourneref03_Crc.f (k1 + k2 + (a0.size + 80)) a0 = some (crcN (nb a0) : Int) := by
      have := lift_ (f := fun k => bourneref03_Crc.f k a0) (fun k => bourneref03_Crc.mono _ _) e2 (k1 + (a0.size + 80))
      rwa [← Nat.add_assoc, Nat.add_comm k2 k1] at this
    have g3 : bourneref03_Sum.f (k1 + k2 + (a0.size + 80)) a0 = some ⟨(sumBytes a0).toArray⟩ := by
      have := lift_ (f := fun k => bourneref03_Sum.f k a0) (fun k => bourneref03_Sum.mono _ _) e3 (k1 + k2)
      rwa [Nat.add_comm (a0.size + 80)] at this
    have g4 : bourneref03_Short.f (k1 + k2 + (a0.size + 80)) a0 = some (shortN a0 : Int) := by
      have := lift_ (f := fun k => bourneref03_Short.f k a0) (fun k => bourneref03_Short.mono _ _) e4 (k1 + k2)
      rwa [Nat.add_comm (a0.size + 80)] at this
    have g5 : bourneref03_Hex.f (k1 + k2 + (a0.size + 80)) a0 = some ⟨(hexL a0.data.toList).toArray⟩ := by
      have := lift_ (f := fun k => bourneref03_Hex.f k a0) (fun k => bourneref03_Hex.mono _ _) e5 (k1 + k2 + 79)
      rwa [show a0.size + 1 + (k1 + k2 + 79) = k1 + k2 + (a0.size + 80) by omega] at this
    have p1 : digest_Unhex.f a1 = some (unhexR a1.data.toList) := if_pos (by omega)
    have p2 : digest_Crc.f a0 = some (crcN (nb a0) : Int) := if_pos (by omega)
    have p3 : digest_Sum.f a0 = some ⟨(sumBytes a0).toArray⟩ := if_pos (by omega)
    have p4 : digest_Short.f a0 = some (shortN a0 : Int) := if_pos (by omega)
    have p5 : digest_Hex.f a0 = some ⟨(hexL a0.data.toList).toArray⟩ := if_pos (by omega)
    unfold bournelaw03_DigestTells.f bournelaw03_small.f
    rw [Option.bind_some, if_neg (by omega), bournelaw03_DigestTells.j0, decide_eq_false (by omega), if_neg (by decide), p1, Option.bind_some, g1, Option.bind_some, if_pos rfl, p3, Option.bind_some, g3, Option.bind_some, if_pos rfl,
      p4, Option.bind_some, g4, Option.bind_some, if_pos rfl, p2, Option.bind_some, g2, Option.bind_some, if_pos rfl, p5, Option.bind_some, g5, Option.bind_some, if_pos rfl, if_pos rfl]
    simp
  · refine ⟨1, ?_⟩
    unfold bournelaw03_DigestTells.f bournelaw03_small.f
    rw [Option.bind_some]
    by_cases h : (a0.size : Int) > 2000
    · rw [if_pos h, bournelaw03_DigestTells.j0, if_pos rfl]
    · rw [if_neg h, bournelaw03_DigestTells.j0, if_pos (by simp; omega)]
end Go.Proofs.YtdgejkiackeieaaDoor.Pure
end
