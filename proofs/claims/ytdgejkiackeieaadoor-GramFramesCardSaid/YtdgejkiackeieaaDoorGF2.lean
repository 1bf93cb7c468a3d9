/- Texts of this claim, joined: WireS, WireP, PWr4, WireQ, WireR, WireT, Repl, ShR, WireX, RowX, WireU, WireV, WireY, WireZ, WireL, GramA, OpenX, GramB, GramC, PCrc, Crc, PSmall1, Xb, ShortT, GramD, GramE, GramF, GramG, GramH, GramI, GLReads, GLSeals, FrameP, FrameQ, Pl, FrameE, FrameF, FrameG, ShF, FrameH, FrameI. -/
import Derived.Lib.BitFns
import Derived.Test.YtdgejkiackeieaaDoorGF1
import Derived.Laws.BitsAllLaws
import Derived.Laws.BytesArg
import Derived.Lib.Strings
import Derived.Lib.SmallJoins
import Derived.Lib.Replace
import Derived.Lib.ReplaceLaws
import Derived.Lib.CountLaws
import Derived.Shelf.Strings.Replace
import Derived.Test.YtdgejkiackeieaaDoorProg
import Derived.BigCall
import Derived.Outline
import Derived.Lib.Hide
import Derived.Test.YtdgejkiackeieaaDoorRows
import Derived.Test.YtdgejkiackeieaaDoorWSized
import Derived.HandedShaped
import Derived.Handed
import Derived.ProofKit
import Derived.OpenShut
import Derived.LaidMore
import Derived.Lay
import Derived.WalkLawsBesides
import Derived.Test.YtdgejkiackeieaaDoorWLast
import Derived.BigRegion
import Derived.Laws.CopyOwn
import Derived.ChangeKeysEq
import Derived.Deep.Slices
import Derived.Deep.Fields
import Derived.ChangeSame
import Derived.SliceStrings
import Derived.Below
import Derived.Deep.Draws
import Derived.Deep.AppendLies
import Derived.Maps.AppendAt
import Derived.OwnWalk
import Derived.Laws.MakeOwn
import Derived.Laws.OwnMore
import Derived.Deep.OwnRows
import Derived.Tactics
import Derived.Lib.ConvBytes
import Derived.Laws.Slices
import Derived.WalkKit
import Derived.KernelRfl
import Derived.RowKit3
import Derived.Deep.LoopGhost
import Derived.Deep.QuietTactic
import Derived.BigQuiet
import Derived.WideLaws
import Derived.Deep.DeepCutAuto
import Derived.Deep.CutBlock
import Derived.Deep.RegionHeld3
import Derived.Laws.Rows
import Derived.Lib.AppendStr
import Derived.ArgAppend
import Derived.Laws.IdiomCopy
import Derived.OrdersHeld
import Derived.Laws.BitsLemmas
import Derived.RowKit
import Derived.Test.YtdgejkiackeieaaDoorWWords
import Derived.Test.YtdgejkiackeieaaDoorWTab
import Derived.Test.YtdgejkiackeieaaDoorWFour
import Derived.Test.YtdgejkiackeieaaDoorWQPut
import Derived.Test.YtdgejkiackeieaaDoorWApart
import Derived.Test.YtdgejkiackeieaaDoorWArr
import Derived.Test.YtdgejkiackeieaaDoorWZeros
import Derived.Test.YtdgejkiackeieaaDoorWFoot
import Derived.Test.YtdgejkiackeieaaDoorWKept
import Derived.Test.YtdgejkiackeieaaDoorWShare
import Derived.Test.YtdgejkiackeieaaDoorWN
import Derived.Test.YtdgejkiackeieaaDoorWFootNe
import Derived.Test.YtdgejkiackeieaaDoorWAt
import Derived.Test.YtdgejkiackeieaaDoorWEqStruct
import Derived.Test.YtdgejkiackeieaaDoorWRepsOne
import Derived.Test.YtdgejkiackeieaaDoorWInv
import Derived.Test.YtdgejkiackeieaaDoorWInvWords
import Derived.Test.YtdgejkiackeieaaDoorWGuard
import Derived.Test.YtdgejkiackeieaaDoorWNEv
import Derived.Test.YtdgejkiackeieaaDoorWMore
import Derived.Lib.IndexMore
import Derived.Lib.LastIndexByte
import Derived.Shelf.Strings.Cut
import Derived.Shelf.Strings.LastIndex
import Derived.RangeFuncNested
import Derived.RangeFuncBound
import Derived.RangeFuncCalls
import Derived.RangeFuncLeaves
import Derived.RangeFuncBox
import Derived.Shelf.Abstract
import Derived.Shelf.RegionOpen
import Derived.OwnWalkIn
import Derived.TacticsInMore
import Derived.LoopNIn
import Derived.LoopIn
section
set_option linter.unusedVariables false
set_option linter.unusedSimpArgs false
/- The encoding of layer 2 in plain words: numbers, strings and lists as bytes, and how they are read back. No program in sight. -/
set_option linter.unusedVariables false
set_option linter.unusedSimpArgs false
namespace Go.Proofs.YtdgejkiackeieaaDoor.Wr
/-! ### the bytes of a number -/
def mlenF : Nat → Nat → Nat
  | 0, _ => 0
  | f + 1, m => if m = 0 then 0 else mlenF f (m / 256) + 1
/-- How many bytes a number below 256^8 has. -/
def mlen (m : Nat) : Nat := mlenF 8 m
theorem mlenF_spec (f : Nat) : ∀ m, m < 256 ^ f → m < 256 ^ mlenF f m ∧ ∀ k, m < 256 ^ k → mlenF f m ≤ k := by
  induction f with
  | zero => intro m h; exact ⟨h, fun k _ => Nat.zero_le _⟩
  | succ f ih =>
    intro m h
    rw [mlenF]
    by_cases hm : m = 0
    · rw [if_pos hm, hm]; exact ⟨by decide, fun k _ => Nat.zero_le _⟩
    · rw [if_neg hm]
      have h1 : m / 256 < 256 ^ f := by rw [Nat.pow_succ] at h; omega
      obtain ⟨a, b⟩ := ih (m / 256) h1
      refine ⟨by rw [Nat.pow_succ]; omega, fun k hk => ?_⟩
      cases k with
      | zero => exfalso; rw [Nat.pow_zero] at hk; omega
      | succ k =>
        have := b k (by rw [Nat.pow_succ] at hk; omega)
        omega
theorem mlen_lt {m : Nat} (h : m < 256 ^ 8) : m < 256 ^ mlen m := (mlenF_spec 8 m h).1
theorem mlen_le {m k : Nat} (h : m < 256 ^ 8) (hk : m < 256 ^ k) : mlen m ≤ k := (mlenF_spec 8 m h).2 k hk
theorem mlen_le8 {m : Nat} (h : m < 256 ^ 8) : mlen m ≤ 8 := mlen_le h h
/-- The last k bytes of a number, the greatest first. -/
def beR : Nat → Nat → List UInt8
  | 0, _ => []
  | k + 1, m => UInt8.ofNat (m / 256 ^ k % 256) :: beR k m
theorem beR_length (k m : Nat) : (beR k m).length = k := by induction k with | zero => rfl | succ k ih => simp [beR, ih]
/-- The number of bytes, the greatest first. -/
def beV (l : List UInt8) : Nat := l.foldl (fun n c => n * 256 + c.toNat) 0
theorem foldl_be (l : List UInt8) : ∀ n, l.foldl (fun n c => n * 256 + c.toNat) n = n * 256 ^ l.length + beV l := by
  induction l with
  | nil => intro n; simp [beV]
  | cons c l ih =>
    intro n
    simp only [List.foldl_cons, List.length_cons, beV]
    rw [ih, ih (0 * 256 + c.toNat), Nat.pow_succ, Nat.zero_mul, Nat.zero_add, Nat.add_mul]
    have : n * 256 * 256 ^ l.length = n * (256 ^ l.length * 256) := by rw [Nat.mul_assoc, Nat.mul_comm 256]
    omega
theorem beV_cons (c : UInt8) (l : List UInt8) : beV (c :: l) = c.toNat * 256 ^ l.length + beV l := by
  show List.foldl _ _ _ = _
  rw [List.foldl_cons, foldl_be, Nat.zero_mul, Nat.zero_add]
theorem beV_snoc (l : List UInt8) (c : UInt8) : beV (l ++ [c]) = beV l * 256 + c.toNat := by simp [beV]
theorem beV_lt (l : List UInt8) : beV l < 256 ^ l.length := by
  induction l with
  | nil => decide
  | cons c l ih =>
    have hc := c.toNat_lt
    have h1 : (c.toNat + 1) * 256 ^ l.length ≤ 256 * 256 ^ l.length := Nat.mul_le_mul_right _ (by omega)
    rw [Nat.add_mul, Nat.one_mul] at h1
    rw [beV_cons, List.length_cons, Nat.pow_succ, Nat.mul_comm (256 ^ l.length)]
    omega
theorem beV_beR (k m : Nat) : beV (beR k m) = m % 256 ^ k := by
  induction k with
  | zero => rw [Nat.pow_zero, Nat.mod_one]; rfl
  | succ k ih =>
    rw [beR, beV_cons, beR_length, ih, UInt8.toNat_ofNat', Nat.mod_eq_of_lt (Nat.mod_lt _ (by decide)), Nat.pow_succ, Nat.mod_mul, Nat.mul_comm, Nat.add_comm]
theorem beR_high (k : Nat) : ∀ n a v, k ≤ n → beR k (a * 256 ^ n + v) = beR k v := by
  induction k with
  | zero => intro n a v _; rfl
  | succ k ih =>
    intro n a v h
    rw [beR, beR, ih n a v (by omega)]
    congr 2
    obtain ⟨d, rfl⟩ : ∃ d, n = k + 1 + d := ⟨n - (k + 1), by omega⟩
    have e : a * 256 ^ (k + 1 + d) + v = v + 256 ^ k * (256 * (a * 256 ^ d)) := by
      rw [Nat.pow_add, Nat.pow_succ, Nat.add_comm v]
      congr 1
      rw [Nat.mul_comm a, Nat.mul_assoc, Nat.mul_assoc, Nat.mul_comm (256 ^ d)]
    rw [e, Nat.add_mul_div_left _ _ (Nat.pow_pos (by decide)), Nat.add_mul_mod_self_left]
theorem beR_beV (l : List UInt8) : beR l.length (beV l) = l := by
  induction l with
  | nil => rfl
  | cons c l ih =>
    rw [List.length_cons, beR, beV_cons, beR_high l.length l.length c.toNat (beV l) (Nat.le_refl _), ih]
    congr 1
    rw [Nat.mul_comm, Nat.mul_add_div (Nat.pow_pos (by decide)), Nat.div_eq_of_lt (beV_lt l), Nat.add_zero, Nat.mod_eq_of_lt c.toNat_lt, UInt8.ofNat_toNat]
/-- A byte's complement. -/
def inv (c : UInt8) : UInt8 := UInt8.ofNat (255 - c.toNat)
theorem inv_inv (c : UInt8) : inv (inv c) = c := by
  have hc := c.toNat_lt
  unfold inv
  rw [UInt8.toNat_ofNat', Nat.mod_eq_of_lt (by omega), show 255 - (255 - c.toNat) = c.toNat by omega, UInt8.ofNat_toNat]
theorem map_inv_inv (l : List UInt8) : (l.map inv).map inv = l := by
  rw [List.map_map]
  conv => rhs; rw [← List.map_id l]
  exact List.map_congr_left (fun c _ => inv_inv c)
/-! ### integers -/
/-- An integer's bytes. -/
def intB (n : Int) : List UInt8 :=
  if 0 ≤ n then UInt8.ofNat (128 + mlen n.toNat) :: beR (mlen n.toNat) n.toNat
  else UInt8.ofNat (127 - mlen (-1 - n).toNat) :: (beR (mlen (-1 - n).toNat) (-1 - n).toNat).map inv
theorem intB_pos (m : Nat) : intB (m : Int) = UInt8.ofNat (128 + mlen m) :: beR (mlen m) m := by
  unfold intB; rw [if_pos (by omega), Int.toNat_natCast]
theorem intB_neg (m : Nat) : intB (-1 - (m : Int)) = UInt8.ofNat (127 - mlen m) :: (beR (mlen m) m).map inv := by
  unfold intB; rw [if_neg (by omega), show (-1 - (-1 - (m : Int))).toNat = m by omega]
/-- Where an int's range ends. -/
def InR (n : Int) : Prop := -9223372036854775808 ≤ n ∧ n ≤ 9223372036854775807
/-- Reading an integer: the number and what is left. -/
def intR : List UInt8 → Option (Int × List UInt8)
  | [] => none
  | c :: t =>
    if c.toNat < 128 then
      if 127 - c.toNat > 8 ∨ 127 - c.toNat > t.length then none
      else if mlen (beV ((t.take (127 - c.toNat)).map inv)) ≠ 127 - c.toNat ∨ 9223372036854775808 ≤ beV ((t.take (127 - c.toNat)).map inv) then none
      else some (-1 - (beV ((t.take (127 - c.toNat)).map inv) : Int), t.drop (127 - c.toNat))
    else
      if c.toNat - 128 > 8 ∨ c.toNat - 128 > t.length then none
      else if mlen (beV (t.take (c.toNat - 128))) ≠ c.toNat - 128 ∨ 9223372036854775808 ≤ beV (t.take (c.toNat - 128)) then none
      else some ((beV (t.take (c.toNat - 128)) : Int), t.drop (c.toNat - 128))
theorem pow8 {m : Nat} (h : m < 9223372036854775808) : m < 256 ^ 8 := Nat.lt_trans h (by decide)
theorem intR_pos (m : Nat) (hm : m < 9223372036854775808) (r : List UInt8) : intR (intB (m : Int) ++ r) = some ((m : Int), r) := by
  have h8 := mlen_le8 (pow8 hm)
  have hc : (UInt8.ofNat (128 + mlen m)).toNat = 128 + mlen m := by rw [UInt8.toNat_ofNat', Nat.mod_eq_of_lt (by omega)]
  have hv : beV (beR (mlen m) m) = m := by rw [beV_beR, Nat.mod_eq_of_lt (mlen_lt (pow8 hm))]
  have ht : (beR (mlen m) m ++ r).take (mlen m) = beR (mlen m) m := by rw [List.take_append_of_le_length (by rw [beR_length]; exact Nat.le_refl _), List.take_of_length_le (by rw [beR_length]; exact Nat.le_refl _)]
  have hd : (beR (mlen m) m ++ r).drop (mlen m) = r := by rw [List.drop_append_of_le_length (by rw [beR_length]; exact Nat.le_refl _), List.drop_of_length_le (by rw [beR_length]; exact Nat.le_refl _), List.nil_append]
  rw [intB_pos, List.cons_append, intR, hc, if_neg (by omega), show 128 + mlen m - 128 = mlen m by omega, if_neg (by rw [List.length_append, beR_length]; omega), ht, hv, if_neg (by omega), hd]
theorem intR_neg (m : Nat) (hm : m < 9223372036854775808) (r : List UInt8) : intR (intB (-1 - (m : Int)) ++ r) = some (-1 - (m : Int), r) := by
  have h8 := mlen_le8 (pow8 hm)
  have hc : (UInt8.ofNat (127 - mlen m)).toNat = 127 - mlen m := by rw [UInt8.toNat_ofNat', Nat.mod_eq_of_lt (by omega)]
  have hv : beV (beR (mlen m) m) = m := by rw [beV_beR, Nat.mod_eq_of_lt (mlen_lt (pow8 hm))]
  have hl : ((beR (mlen m) m).map inv).length = mlen m := by rw [List.length_map, beR_length]
  have ht : ((beR (mlen m) m).map inv ++ r).take (mlen m) = (beR (mlen m) m).map inv := by rw [List.take_append_of_le_length (by omega), List.take_of_length_le (by omega)]
  have hd : ((beR (mlen m) m).map inv ++ r).drop (mlen m) = r := by rw [List.drop_append_of_le_length (by omega), List.drop_of_length_le (by omega), List.nil_append]
  rw [intB_neg, List.cons_append, intR, hc, if_pos (by omega), show 127 - (127 - mlen m) = mlen m by omega, if_neg (by rw [List.length_append, hl]; omega), ht, map_inv_inv, hv, if_neg (by omega), hd]
/-- Reading inverts writing. -/
theorem intR_intB (n : Int) (h : InR n) (r : List UInt8) : intR (intB n ++ r) = some (n, r) := by
  obtain ⟨h1, h2⟩ := h
  by_cases hn : 0 ≤ n
  · obtain ⟨m, rfl⟩ := Int.eq_ofNat_of_zero_le hn
    exact intR_pos m (by omega) r
  · obtain ⟨m, hm⟩ : ∃ m : Nat, n = -1 - (m : Int) := ⟨(-1 - n).toNat, by omega⟩
    subst hm
    exact intR_neg m (by omega) r
/-- What is read is what was written. -/
theorem intB_intR (l : List UInt8) (n : Int) (r : List UInt8) (h : intR l = some (n, r)) : l = intB n ++ r ∧ InR n := by
  cases l with
  | nil => cases h
  | cons c t =>
    have hc := c.toNat_lt
    rw [intR] at h
    by_cases hneg : c.toNat < 128
    · rw [if_pos hneg] at h
      by_cases h1 : 127 - c.toNat > 8 ∨ 127 - c.toNat > t.length
      · rw [if_pos h1] at h; cases h
      rw [if_neg h1] at h
      by_cases h2 : mlen (beV ((t.take (127 - c.toNat)).map inv)) ≠ 127 - c.toNat ∨ 9223372036854775808 ≤ beV ((t.take (127 - c.toNat)).map inv)
      · rw [if_pos h2] at h; cases h
      rw [if_neg h2] at h
      simp only [Option.some.injEq, Prod.mk.injEq] at h
      obtain ⟨rfl, rfl⟩ := h
      have hk : mlen (beV ((t.take (127 - c.toNat)).map inv)) = 127 - c.toNat := by omega
      have hl : ((t.take (127 - c.toNat)).map inv).length = 127 - c.toNat := by rw [List.length_map, List.length_take]; omega
      refine ⟨?_, by unfold InR; omega⟩
      rw [intB_neg, hk, show 127 - (127 - c.toNat) = c.toNat by omega, UInt8.ofNat_toNat, List.cons_append]
      have hb := beR_beV ((t.take (127 - c.toNat)).map inv)
      rw [hl] at hb
      rw [hb, map_inv_inv, List.take_append_drop]
    · rw [if_neg hneg] at h
      by_cases h1 : c.toNat - 128 > 8 ∨ c.toNat - 128 > t.length
      · rw [if_pos h1] at h; cases h
      rw [if_neg h1] at h
      by_cases h2 : mlen (beV (t.take (c.toNat - 128))) ≠ c.toNat - 128 ∨ 9223372036854775808 ≤ beV (t.take (c.toNat - 128))
      · rw [if_pos h2] at h; cases h
      rw [if_neg h2] at h
      simp only [Option.some.injEq, Prod.mk.injEq] at h
      obtain ⟨rfl, rfl⟩ := h
      have hk : mlen (beV (t.take (c.toNat - 128))) = c.toNat - 128 := by omega
      have hl : (t.take (c.toNat - 128)).length = c.toNat - 128 := by rw [List.length_take]; omega
      refine ⟨?_, by unfold InR; omega⟩
      rw [intB_pos, hk, show 128 + (c.toNat - 128) = c.toNat by omega, UInt8.ofNat_toNat, List.cons_append]
      have hb := beR_beV (t.take (c.toNat - 128))
      rw [hl] at hb
      rw [hb, List.take_append_drop]
theorem intB_length (n : Int) (h : InR n) : (intB n).length ≤ 9 := by
  obtain ⟨h1, h2⟩ := h
  unfold intB
  split
  · have := mlen_le8 (m := n.toNat) (pow8 (by omega))
    simp [beR_length]; omega
  · have := mlen_le8 (m := (-1 - n).toNat) (pow8 (by omega))
    simp [beR_length]; omega
theorem intR_length (l : List UInt8) (n : Int) (r : List UInt8) (h : intR l = some (n, r)) : r.length < l.length := by
  obtain ⟨e, _⟩ := intB_intR l n r h
  have : 0 < (intB n).length := by unfold intB; split <;> simp
  rw [e, List.length_append]; omega
/-! ### strings -/
def textB (l : List UInt8) : List UInt8 := (l.flatMap fun c => if c = 0 then [0, 255] else [c]) ++ [0, 1]
def textR : List UInt8 → Option (List UInt8 × List UInt8)
  | [] => none
  | [_] => none
  | c :: d :: l => if c = 0 then (if d = 255 then (textR l).map (fun p => (0 :: p.1, p.2)) else if d = 1 then some ([], l) else none) else (textR (d :: l)).map (fun p => (c :: p.1, p.2))
theorem textB_cons (c : UInt8) (l : List UInt8) : textB (c :: l) = (if c = 0 then [0, 255] else [c]) ++ textB l := by simp [textB]
theorem textR_ne (c : UInt8) (h : c ≠ 0) (l : List UInt8) : textR (c :: l) = (textR l).map (fun p => (c :: p.1, p.2)) := by
  cases l with
  | nil => rfl
  | cons d l => rw [textR, if_neg h]
theorem textR_textB (l r : List UInt8) : textR (textB l ++ r) = some (l, r) := by
  induction l with
  | nil => rfl
  | cons c l ih =>
    rw [textB_cons]
    by_cases h : c = 0
    · rw [if_pos h, h]
      show textR (0 :: 255 :: (textB l ++ r)) = _
      rw [textR, if_pos rfl, if_pos rfl, ih]; rfl
    · rw [if_neg h]
      show textR (c :: (textB l ++ r)) = _
      rw [textR_ne c h, ih]; rfl
theorem textB_length (l : List UInt8) : 2 ≤ (textB l).length ∧ (textB l).length ≤ 2 * l.length + 2 := by
  induction l with
  | nil => decide
  | cons c l ih => rw [textB_cons, List.length_append]; split <;> simp only [List.length_cons, List.length_nil] <;> omega
/-! ### lists -/
end Go.Proofs.YtdgejkiackeieaaDoor.Wr
end
section
set_option linter.unusedVariables false
set_option linter.unusedSimpArgs false
/- What the printed functions of layer 2 compute, in the encoding's plain words. -/
set_option linter.unusedVariables false
set_option linter.unusedSimpArgs false
namespace Go.Proofs.YtdgejkiackeieaaDoor.Wr
open Go.RowKit Go.Proofs.YtdgejkiackeieaaDoor.PWr Go.Proofs.YtdgejkiackeieaaDoorW.PrintWords Go.Proofs.YtdgejkiackeieaaDoorW.PrintMore
/-! ### strings and bytes -/
abbrev mkB (l : List UInt8) : ByteArray := ⟨l.toArray⟩
theorem mkB_list (l : List UInt8) : (mkB l).data.toList = l := rfl
theorem mkB_size (l : List UInt8) : (mkB l).size = l.length := by show l.toArray.size = l.length; exact List.size_toArray ..
theorem len_size (s : ByteArray) : s.data.toList.length = s.size := Array.length_toList
theorem ext_ {s t : ByteArray} (h : s.data.toList = t.data.toList) : s = t := by
  obtain ⟨⟨a⟩⟩ := s; obtain ⟨⟨b⟩⟩ := t; cases h; rfl
def uh (l : List UInt8) : List Int := l.map fun c => (c.toNat : Int)
theorem uh_length (l : List UInt8) : (uh l).length = l.length := List.length_map ..
theorem str_uh (l : List UInt8) : strOfNums (uh l) = mkB l := by
  apply ext_
  rw [strOfNums_data, uh, List.map_map]
  show _ = l
  conv => rhs; rw [← List.map_id l]
  exact List.map_congr_left (fun c _ => by simp)
theorem bt_get (s : ByteArray) (i : Nat) (h : i < s.data.toList.length) : bt s (i : Int) = (s.data.toList[i].toNat : Int) := by
  have h' : i < s.size := by rw [← len_size]; exact h
  unfold bt
  rw [dif_pos (show ((i : Int)).toNat < s.size by omega)]
  rfl
theorem bt_zero (s : ByteArray) (c : UInt8) (t : List UInt8) (h : s.data.toList = c :: t) : bt s 0 = (c.toNat : Int) := by
  have h0 : 0 < s.data.toList.length := by rw [h]; simp
  have := bt_get s 0 h0
  rw [show ((0 : Nat) : Int) = 0 from rfl] at this
  rw [this]; simp [h]
theorem extract_drop (s : ByteArray) (a : Nat) : s.extract a s.size = mkB (s.data.toList.drop a) := by
  apply ext_
  rw [Lib.extract_data, mkB_list, List.take_of_length_le (by rw [List.length_drop, len_size]; omega)]
theorem size_pos (s : ByteArray) (c : UInt8) (t : List UInt8) (h : s.data.toList = c :: t) : s.size = t.length + 1 := by rw [← len_size, h]; rfl
theorem w64 {x : Int} (h0 : -9223372036854775808 ≤ x) (h1 : x < 9223372036854775808) : wrap64 x = x := by unfold wrap64; omega
theorem w_u64 (n : Int) : IntKind.u64.wrap n = n % 18446744073709551616 := by simp [IntKind.wrap, IntKind.bits, IntKind.signed]
/-! ### size -/
theorem mlenF_bit (f : Nat) : ∀ m, m < 256 ^ f → m < 18446744073709551616 → (Lib.bitLen m + 7) / 8 = mlenF f m := by
  induction f with
  | zero =>
    intro m h _
    rw [Nat.pow_zero] at h
    obtain rfl : m = 0 := by omega
    decide
  | succ f ih =>
    intro m h h64
    rw [mlenF]
    by_cases hm : m = 0
    · rw [if_pos hm, hm]; decide
    · rw [if_neg hm]
      by_cases h256 : m < 256
      · have h1 := Lib.bitLen_le8 ⟨m, h256⟩
        have h2 : 1 ≤ Lib.bitLen m := by rw [Lib.bitLen_half m hm (by omega)]; omega
        have h3 : m / 256 = 0 := by omega
        have h4 : mlenF f 0 = 0 := by cases f <;> simp [mlenF]
        simp only at h1
        rw [h3, h4]; omega
      · have := ih (m / 256) (by rw [Nat.pow_succ] at h; omega) (by omega)
        rw [Lib.bitLen_shift8 m (by omega) h64, ← this]; omega
theorem size_eq (m : Nat) (h : m < 18446744073709551616) : wire_size.f (m : Int) = some (mlen m : Int) := by
  have h8 : (Lib.bitLen m + 7) / 8 = mlen m := mlenF_bit 8 m h h
  have h9 := mlen_le8 (m := m) h
  unfold wire_size.f bits_Len64.f
  rw [if_pos (by omega), Option.bind_some, Int.toNat_natCast, w64 (x := (Lib.bitLen m : Int) + 7) (by omega) (by omega), Int.tdiv_eq_ediv_of_nonneg (by omega), w64 (by omega) (by omega)]
  congr 1
  omega
/-! ### Int -/
theorem xor_mask (c : Nat) (hc : c < 256) (neg : Bool) : Go.bits .xor .u8 (c : Int) (if neg then 255 else 0) = ((if neg then inv (UInt8.ofNat c) else UInt8.ofNat c).toNat : Int) := by
  have h : ∀ c : Fin 256, ∀ neg : Bool, Go.bits .xor .u8 (c.val : Int) (if neg then 255 else 0) = ((if neg then inv (UInt8.ofNat c.val) else UInt8.ofNat c.val).toNat : Int) := by decide +kernel
  exact h ⟨c, hc⟩ neg
def mk1 (neg : Bool) (l : List UInt8) : List UInt8 := if neg then l.map inv else l
theorem shr_byte (m i : Nat) (hi : i < 8) : (shr .u64 (m : Int) (wrap64 (8 * (i : Int)))) % 256 = ((m / 256 ^ i % 256 : Nat) : Int) := by
  have e : wrap64 (8 * (i : Int)) = ((8 * i : Nat) : Int) := by rw [w64 (by omega) (by omega)]; omega
  have hp : (2 : Nat) ^ (8 * i) = 256 ^ i := by rw [show (256 : Nat) = 2 ^ 8 from rfl, ← Nat.pow_mul]
  rw [e]
  show (m : Int) / 2 ^ min (((8 * i : Nat) : Int)).toNat 64 % 256 = _
  rw [Int.toNat_natCast, Nat.min_eq_left (by omega)]
  have e1 : ((2 : Int) ^ (8 * i)) = ((256 ^ i : Nat) : Int) := by rw [← hp]; exact (Int.natCast_pow 2 (8 * i)).symm
  rw [e1]
  omega
theorem int_loop (m : Nat) (neg : Bool) (j : Nat) (hj : j ≤ 8) : ∀ (pre : List UInt8) (k : Nat), pre.length + j ≤ 100 → wire_Int.l0 (k + j + 1) (m : Int) (if neg then 255 else 0) (uh pre) ((j : Int) - 1) = some (mkB (pre ++ mk1 neg (beR j m))) := by
  induction j with
  | zero =>
    intro pre k _
    rw [wire_Int.l0, if_neg (by omega), str_uh]
    cases neg <;> simp [mk1, beR]
  | succ j ih =>
    intro pre k hp
    rw [← Nat.add_assoc, show (((j + 1 : Nat) : Int) - 1) = (j : Int) by omega, wire_Int.l0, if_pos (by omega), if_pos (show 0 ≤ wrap64 (8 * (j : Int)) by rw [w64 (x := 8 * (j : Int)) (by omega) (by omega)]; omega), if_pos (by rw [uh_length]; omega), shr_byte m j (by omega), xor_mask _ (Nat.mod_lt _ (by decide)), w64 (x := (j : Int) - 1) (by omega) (by omega)]
    have e : uh pre ++ [((if neg = true then inv (UInt8.ofNat (m / 256 ^ j % 256)) else UInt8.ofNat (m / 256 ^ j % 256)).toNat : Int)] = uh (pre ++ [if neg = true then inv (UInt8.ofNat (m / 256 ^ j % 256)) else UInt8.ofNat (m / 256 ^ j % 256)]) := by simp [uh]
    rw [e, ih (by omega) _ k (by rw [List.length_append, List.length_singleton]; omega)]
    congr 2
    rw [List.append_assoc]
    congr 1
    cases neg <;> simp [mk1, beR]
theorem wire_Int_eq (n : Int) (h : InR n) : ∃ k, wire_Int.f k n = some (mkB (intB n)) := by
  obtain ⟨h1, h2⟩ := h
  by_cases hn : 0 ≤ n
  · obtain ⟨m, rfl⟩ := Int.eq_ofNat_of_zero_le hn
    have h8 := mlen_le8 (m := m) (pow8 (by omega))
    refine ⟨(mlen m + 1) + 2, ?_⟩
    have e1 : IntKind.u64.wrap (m : Int) = (m : Int) := by rw [w_u64]; omega
    unfold wire_Int.f
    rw [if_neg (by omega), e1, wire_Int.j0, size_eq m (by omega), Option.bind_some, if_neg (by omega), wire_Int.j1, w64 (x := 128 + (mlen m : Int)) (by omega) (by omega), w64 (x := (mlen m : Int) - 1) (by omega) (by omega)]
    have := int_loop m false (mlen m) h8 [UInt8.ofNat (128 + mlen m)] 0 (by rw [List.length_singleton]; omega)
    have e2 : ([(128 + (mlen m : Int)) % 256] : List Int) = uh [UInt8.ofNat (128 + mlen m)] := by
      simp only [uh, List.map_cons, List.map_nil, UInt8.toNat_ofNat']
      congr 1
    rw [e2, intB_pos]
    rw [Nat.zero_add] at this
    exact this
  · obtain ⟨m, hm⟩ : ∃ m : Nat, n = -1 - (m : Int) := ⟨(-1 - n).toNat, by omega⟩
    subst hm
    have h8 := mlen_le8 (m := m) (pow8 (by omega))
    refine ⟨(mlen m + 1) + 2, ?_⟩
    have e0 : IntKind.u64.wrap (-1 - (m : Int)) = ((18446744073709551615 - m : Nat) : Int) := by rw [w_u64]; omega
    have e1 : Go.bits .xor .u64 IntKind.u64.max (IntKind.u64.wrap (-1 - (m : Int))) = (m : Int) := by
      rw [e0, show IntKind.u64.max = ((18446744073709551615 : Nat) : Int) from rfl, u64_xor_nat _ _ (by omega) (by omega)]
      have : 18446744073709551615 ^^^ (18446744073709551615 - m) = m := by
        have hh := BitVec.toNat_not (x := BitVec.ofNat 64 (18446744073709551615 - m))
        have hx : (~~~(BitVec.ofNat 64 (18446744073709551615 - m))).toNat = 18446744073709551615 ^^^ (18446744073709551615 - m) := by
          rw [show ~~~(BitVec.ofNat 64 (18446744073709551615 - m)) = BitVec.allOnes 64 ^^^ BitVec.ofNat 64 (18446744073709551615 - m) from (BitVec.allOnes_xor).symm, BitVec.toNat_xor, BitVec.toNat_allOnes, BitVec.toNat_ofNat, Nat.mod_eq_of_lt (by omega)]
        rw [← hx, hh, BitVec.toNat_ofNat, Nat.mod_eq_of_lt (by omega)]
        omega
      rw [this]
    unfold wire_Int.f
    rw [if_pos (by omega), e1, wire_Int.j0, size_eq m (by omega), Option.bind_some, if_pos (by omega), wire_Int.j1, w64 (x := 127 - (mlen m : Int)) (by omega) (by omega), w64 (x := (mlen m : Int) - 1) (by omega) (by omega)]
    have := int_loop m true (mlen m) h8 [UInt8.ofNat (127 - mlen m)] 0 (by rw [List.length_singleton]; omega)
    have e2 : ([(127 - (mlen m : Int)) % 256] : List Int) = uh [UInt8.ofNat (127 - mlen m)] := by
      simp only [uh, List.map_cons, List.map_nil, UInt8.toNat_ofNat']
      congr 1
      omega
    rw [e2, intB_neg]
    rw [Nat.zero_add] at this
    exact this
end Go.Proofs.YtdgejkiackeieaaDoor.Wr
end
section
set_option linter.unusedVariables false
set_option linter.unusedSimpArgs false
-- printed by a program of this session's (xprint.py) out of the translation; Lean checks it
namespace Go.Proofs.YtdgejkiackeieaaDoor.PWr
open Go.RowKit Go.Proofs.YtdgejkiackeieaaDoorW.PrintWords Go.Proofs.YtdgejkiackeieaaDoorW.PrintLast Go.Proofs.YtdgejkiackeieaaDoorW.PrintMore
attribute [local go_sem] max2_int min2_int max_two min_two max_three min_three max_four min_four   -- for this text's walks alone
set_option linter.unusedVariables false
set_option linter.unusedSimpArgs false

/-! ### bourneref02_SameNums: function 76 -/
/-! ### bourneref02_SameTexts: function 79 -/
end Go.Proofs.YtdgejkiackeieaaDoor.PWr
end
section
set_option linter.unusedVariables false
set_option linter.unusedSimpArgs false
/- What the printed readers of layer 2 and the reference's printed functions compute, in the encoding's plain words. -/
set_option linter.unusedVariables false
set_option linter.unusedSimpArgs false
namespace Go.Proofs.YtdgejkiackeieaaDoor.Wr
open Go.RowKit Go.Proofs.YtdgejkiackeieaaDoor.PWr Go.Proofs.YtdgejkiackeieaaDoorW.PrintWords Go.Proofs.YtdgejkiackeieaaDoorW.PrintMore
/-- What a reader's function answers: the value, what is left, whether it has failed. -/
def rdr {α : Type} (o : Option (α × List UInt8)) (d : α) (bad : Bool) : α × ByteArray × Bool := match o with | some (x, r) => (x, mkB r, bad) | none => (d, mkB [], true)
theorem toList_nil (s : ByteArray) (h : s.data.toList = []) : s.toList = ([] : List UInt8) := by rw [ByteArray.toList_eq, h]
theorem toList_cons (s : ByteArray) (c : UInt8) (t : List UInt8) (h : s.data.toList = c :: t) : ¬ s.toList = ([] : List UInt8) := by rw [ByteArray.toList_eq, h]; simp
theorem byte_nil (s : ByteArray) (bad : Bool) (h : s.data.toList = []) : wire_Reader_byte.f s bad = some (0, false, mkB [], true) := by
  unfold wire_Reader_byte.f wire_Reader_fail.f
  rw [if_pos (toList_nil s h)]; rfl
theorem byte_cons (s : ByteArray) (bad : Bool) (c : UInt8) (t : List UInt8) (h : s.data.toList = c :: t) : wire_Reader_byte.f s bad = some ((c.toNat : Int), true, mkB t, bad) := by
  have hz := size_pos s c t h
  unfold wire_Reader_byte.f
  rw [if_neg (toList_cons s c t h), if_pos (by omega), if_pos (by omega), bt_zero s c t h, extract_drop s 1, h]
  rfl
theorem not_u64 (m : Nat) (hm : m < 18446744073709551616) : Go.bits .xor .u64 IntKind.u64.max (m : Int) = ((18446744073709551615 - m : Nat) : Int) := by
  rw [show IntKind.u64.max = ((18446744073709551615 : Nat) : Int) from rfl, u64_xor_nat _ _ (by omega) (by omega)]
  have : 18446744073709551615 ^^^ m = 18446744073709551615 - m := by
    have hh := BitVec.toNat_not (x := BitVec.ofNat 64 m)
    have hx : (~~~(BitVec.ofNat 64 m)).toNat = 18446744073709551615 ^^^ m := by
      rw [show ~~~(BitVec.ofNat 64 m) = BitVec.allOnes 64 ^^^ BitVec.ofNat 64 m from (BitVec.allOnes_xor).symm, BitVec.toNat_xor, BitVec.toNat_allOnes, BitVec.toNat_ofNat, Nat.mod_eq_of_lt (by omega)]
    rw [← hx, hh, BitVec.toNat_ofNat, Nat.mod_eq_of_lt (by omega)]
  rw [this]
theorem or_byte (n : Nat) (c : Nat) (hn : n < 2 ^ 56) (hc : c < 256) : Go.bits .or .u64 (IntKind.u64.wrap ((n : Int) * 256)) (IntKind.u64.wrap (c : Int)) = ((n * 256 + c : Nat) : Int) := by
  have e1 : IntKind.u64.wrap ((n : Int) * 256) = ((n * 256 : Nat) : Int) := by rw [w_u64]; omega
  have e2 : IntKind.u64.wrap (c : Int) = (c : Int) := by rw [w_u64]; omega
  rw [e1, e2, u64_or_nat _ _ (by omega) (by omega), nat_join 8 (n * 256) c (by omega) (by omega)]
/-- What the reader makes of the first kk bytes. -/
def fin (neg : Bool) (kk : Nat) (t : List UInt8) (bad : Bool) : Int × ByteArray × Bool :=
  if mlen (beV (mk1 neg (t.take kk))) ≠ kk ∨ 9223372036854775808 ≤ beV (mk1 neg (t.take kk)) then (0, mkB [], true)
  else (if neg then -1 - (beV (mk1 neg (t.take kk)) : Int) else (beV (mk1 neg (t.take kk)) : Int), mkB (t.drop kk), bad)
theorem mk1_length (neg : Bool) (l : List UInt8) : (mk1 neg l).length = l.length := by cases neg <;> simp [mk1]
theorem mk1_snoc (neg : Bool) (l : List UInt8) (c : UInt8) : mk1 neg (l ++ [c]) = mk1 neg l ++ [if neg then inv c else c] := by cases neg <;> simp [mk1]
theorem pow256_le8 {k : Nat} (h : k ≤ 8) : 256 ^ k ≤ 18446744073709551616 := Nat.le_trans (Nat.pow_le_pow_right (by decide) h) (by decide)
theorem rd_loop (s : ByteArray) (neg bad : Bool) (kk : Nat) (hk : kk ≤ 8) (hl : kk ≤ s.data.toList.length) (d : Nat) : ∀ (i k : Nat), i + d = kk →
    wire_Reader_Int.l0 (k + d + 3) (kk : Int) (if neg then 255 else 0) (beV (mk1 neg (s.data.toList.take i)) : Int) (kk : Int) (i : Int) s bad = some (fin neg kk s.data.toList bad) := by
  induction d with
  | zero =>
    intro i k hi
    obtain rfl : i = kk := by omega
    have hv := beV_lt (mk1 neg (s.data.toList.take i))
    rw [mk1_length, List.length_take, Nat.min_eq_left hl] at hv
    have hv8 := pow256_le8 hk
    obtain ⟨m, hm⟩ : ∃ m, beV (mk1 neg (s.data.toList.take i)) = m := ⟨_, rfl⟩
    have hz : s.size = s.data.toList.length := (len_size s).symm
    unfold fin
    rw [hm] at hv ⊢
    rw [wire_Reader_Int.l0, if_neg (by omega), size_eq m (by omega), Option.bind_some]
    by_cases h1 : mlen m = i
    · rw [if_pos (by omega)]
      by_cases h2 : 9223372036854775808 ≤ m
      · rw [if_pos (show mlen m ≠ i ∨ 9223372036854775808 ≤ m from Or.inr h2), wire_Reader_Int.j3, if_pos (by rw [bne_iff_ne]; omega)]
        rfl
      · rw [if_neg (show ¬ (mlen m ≠ i ∨ 9223372036854775808 ≤ m) by omega), wire_Reader_Int.j3, if_neg (by rw [bne_iff_ne]; omega), if_pos (by omega), if_pos (by omega)]
        have ed : s.extract ((i : Int)).toNat s.size = mkB (s.data.toList.drop i) := extract_drop s i
        cases neg with
        | false => rw [if_pos (by simp), ed, w64 (by omega) (by omega)]; rfl
        | true =>
          have en : wrap64 (Go.bits .xor .u64 IntKind.u64.max (m : Int)) = -1 - (m : Int) := by rw [not_u64 m (by omega)]; unfold wrap64; omega
          rw [if_neg (by simp), ed, en]; rfl
    · rw [if_neg (show ¬ (mlen m : Int) = (i : Int) by omega), if_pos (show mlen m ≠ i ∨ 9223372036854775808 ≤ m from Or.inl h1), wire_Reader_Int.j3, if_pos rfl]
      rfl
  | succ d ih =>
    intro i k hi
    have hlt : i < s.data.toList.length := by omega
    have hz : s.size = s.data.toList.length := (len_size s).symm
    have hv := beV_lt (mk1 neg (s.data.toList.take i))
    rw [mk1_length, List.length_take, Nat.min_eq_left (by omega)] at hv
    have hv7 : 256 ^ i ≤ 2 ^ 56 := Nat.le_trans (Nat.pow_le_pow_right (by decide) (show i ≤ 7 by omega)) (by decide)
    have hc := (s.data.toList[i]).toNat_lt
    have hx : Go.bits .xor .u8 ((s.data.toList[i]).toNat : Int) (if neg = true then 255 else 0) = ((if neg then inv s.data.toList[i] else s.data.toList[i]).toNat : Int) := by
      have := xor_mask (s.data.toList[i]).toNat hc neg
      rw [UInt8.ofNat_toNat] at this
      exact this
    have hT : beV (mk1 neg (s.data.toList.take (i + 1))) = beV (mk1 neg (s.data.toList.take i)) * 256 + (if neg then inv s.data.toList[i] else s.data.toList[i]).toNat := by
      rw [List.take_succ_eq_append_getElem hlt, mk1_snoc, beV_snoc]
    rw [show k + (d + 1) + 3 = (k + d + 3) + 1 by omega, wire_Reader_Int.l0, if_pos (by omega), if_pos (by omega), if_pos (by omega), bt_get s i hlt, hx, or_byte _ _ (by omega) (UInt8.toNat_lt _), w64 (x := (i : Int) + 1) (by omega) (by omega), ← hT]
    exact ih (i + 1) k (by omega)
theorem intR_cons (c : UInt8) (t : List UInt8) (bad : Bool) :
    rdr (intR (c :: t)) 0 bad = if (if c.toNat < 128 then 127 - c.toNat else c.toNat - 128) > 8 ∨ (if c.toNat < 128 then 127 - c.toNat else c.toNat - 128) > t.length then (0, mkB [], true)
      else fin (decide (c.toNat < 128)) (if c.toNat < 128 then 127 - c.toNat else c.toNat - 128) t bad := by
  have mt : ∀ l, mk1 true l = l.map inv := fun _ => rfl
  have mf : ∀ l, mk1 false l = l := fun _ => rfl
  rw [intR]
  by_cases h : c.toNat < 128
  · rw [if_pos h, if_pos h, decide_eq_true h]
    generalize 127 - c.toNat = kk
    unfold fin
    rw [mt, if_pos rfl]
    by_cases h1 : kk > 8 ∨ kk > t.length
    · rw [if_pos h1, if_pos h1]; rfl
    · rw [if_neg h1, if_neg h1]
      by_cases h2 : mlen (beV ((t.take kk).map inv)) ≠ kk ∨ 9223372036854775808 ≤ beV ((t.take kk).map inv)
      · rw [if_pos h2, if_pos h2]; rfl
      · rw [if_neg h2, if_neg h2]; rfl
  · rw [if_neg h, if_neg h, decide_eq_false h]
    generalize c.toNat - 128 = kk
    unfold fin
    rw [mf]
    by_cases h1 : kk > 8 ∨ kk > t.length
    · rw [if_pos h1, if_pos h1]; rfl
    · rw [if_neg h1, if_neg h1]
      by_cases h2 : mlen (beV (t.take kk)) ≠ kk ∨ 9223372036854775808 ≤ beV (t.take kk)
      · rw [if_pos h2, if_pos h2]; rfl
      · rw [if_neg h2, if_neg h2]; rfl
set_option maxRecDepth 100000 in
theorem Reader_Int_eq (s : ByteArray) (hs : s.size ≤ 10000000) (bad : Bool) : ∃ k, wire_Reader_Int.f k s bad = some (rdr (intR s.data.toList) 0 bad) := by
  cases hl : s.data.toList with
  | nil =>
    refine ⟨0, ?_⟩
    unfold wire_Reader_Int.f
    rw [byte_nil s bad hl, Option.bind_some]
    rfl
  | cons c t =>
    have hc := c.toNat_lt
    have hz := size_pos s c t hl
    have ht : (mkB t).data.toList = t := rfl
    have e1 : wrap64 ((c.toNat : Int)) = (c.toNat : Int) := w64 (by omega) (by omega)
    have e2 : wrap64 ((c.toNat : Int) - 128) = (c.toNat : Int) - 128 := w64 (by omega) (by omega)
    obtain ⟨kk, hkk⟩ : ∃ kk : Nat, (if c.toNat < 128 then 127 - c.toNat else c.toNat - 128) = kk := ⟨_, rfl⟩
    refine ⟨(0 + kk + 3) + 1 + 1, ?_⟩
    rw [intR_cons, hkk]
    have go : wire_Reader_Int.j0 ((0 + kk + 3) + 1 + 1) (kk : Int) (if decide (c.toNat < 128) = true then 255 else 0) (mkB t) bad = some (if kk > 8 ∨ kk > t.length then (0, mkB [], true) else fin (decide (c.toNat < 128)) kk t bad) := by
      rw [wire_Reader_Int.j0]
      by_cases h8 : kk > 8
      · rw [if_pos (by omega), wire_Reader_Int.j1, if_pos rfl, if_pos (Or.inl h8)]; rfl
      · rw [if_neg (by omega), wire_Reader_Int.j1]
        have hsz : (mkB t).size = t.length := mkB_size t
        by_cases hlen : kk > t.length
        · rw [decide_eq_true (show (kk : Int) > ((mkB t).size : Int) by omega), if_pos rfl, if_pos (Or.inr hlen)]; rfl
        · rw [decide_eq_false (show ¬ (kk : Int) > ((mkB t).size : Int) by omega), if_neg (by decide), if_neg (show ¬ (kk > 8 ∨ kk > t.length) by omega)]
          have := rd_loop (mkB t) (decide (c.toNat < 128)) bad kk (by omega) (by rw [ht]; omega) kk 0 0 (by omega)
          have e0 : beV (mk1 (decide (c.toNat < 128)) ((mkB t).data.toList.take 0)) = 0 := by cases decide (c.toNat < 128) <;> rfl
          rw [e0] at this
          exact this
    unfold wire_Reader_Int.f
    rw [byte_cons s bad c t hl, Option.bind_some, if_pos rfl]
    show (if wrap64 (wrap64 (c.toNat : Int) - 128) < 0 then _ else _) = _
    rw [e1, e2]
    by_cases hneg : c.toNat < 128
    · rw [if_pos (by omega), show wrap64 (-1 - ((c.toNat : Int) - 128)) = (kk : Int) by rw [w64 (by omega) (by omega)]; rw [if_pos hneg] at hkk; omega]
      rw [decide_eq_true hneg] at go ⊢
      exact go
    · rw [if_neg (by omega), show (c.toNat : Int) - 128 = (kk : Int) by rw [if_neg hneg] at hkk; omega]
      rw [decide_eq_false hneg] at go ⊢
      exact go
end Go.Proofs.YtdgejkiackeieaaDoor.Wr
end
section
set_option linter.unusedVariables false
set_option linter.unusedSimpArgs false
/- What the reference's printed functions of layer 2 compute, in the encoding's plain words. -/
set_option linter.unusedVariables false
set_option linter.unusedSimpArgs false
namespace Go.Proofs.YtdgejkiackeieaaDoor.Wr
open Go.RowKit Go.Proofs.YtdgejkiackeieaaDoor.PWr Go.Proofs.YtdgejkiackeieaaDoorW.PrintWords Go.Proofs.YtdgejkiackeieaaDoorW.PrintMore
theorem mkB_append (a b : List UInt8) : mkB a ++ mkB b = mkB (a ++ b) := by
  apply ext_; rw [Go.Joins.data_append]
def lists (l : List ByteArray) : List (List UInt8) := l.map (·.data.toList)
end Go.Proofs.YtdgejkiackeieaaDoor.Wr
end
section
set_option linter.unusedVariables false
set_option linter.unusedSimpArgs false
/- What the reference's printed readers of layer 2 compute, in the encoding's plain words. -/
set_option linter.unusedVariables false
set_option linter.unusedSimpArgs false
namespace Go.Proofs.YtdgejkiackeieaaDoor.Wr
open Go.RowKit Go.Proofs.YtdgejkiackeieaaDoor.PWr Go.Proofs.YtdgejkiackeieaaDoorW.PrintWords Go.Proofs.YtdgejkiackeieaaDoorW.PrintMore
/-- A reader's answer for a string. -/
def rdrS (o : Option (List UInt8 × List UInt8)) (bad : Bool) : ByteArray × ByteArray × Bool := match o with | some (x, r) => (mkB x, mkB r, bad) | none => (mkB [], mkB [], true)
def rdrSp (pre : List UInt8) (o : Option (List UInt8 × List UInt8)) (bad : Bool) : ByteArray × ByteArray × Bool := match o with | some (x, r) => (mkB (pre ++ x), mkB r, bad) | none => (mkB [], mkB [], true)
theorem rdrSp_map (pre : List UInt8) (c : UInt8) (o : Option (List UInt8 × List UInt8)) (bad : Bool) : rdrSp pre (o.map fun p => (c :: p.1, p.2)) bad = rdrSp (pre ++ [c]) o bad := by
  cases o with
  | none => rfl
  | some p => simp [rdrSp]
theorem byte_eq_iff (c : UInt8) (n : Nat) (hn : n < 256) : ((c.toNat : Int) = (n : Int)) ↔ c = UInt8.ofNat n := by
  constructor
  · intro h
    rw [← UInt8.toNat_inj, UInt8.toNat_ofNat', Nat.mod_eq_of_lt hn]; omega
  · intro h
    rw [h, UInt8.toNat_ofNat', Nat.mod_eq_of_lt hn]
/-- The states that a reader can come to: once it has failed nothing is left. -/
def Okr (s : ByteArray) (bad : Bool) : Prop := bad = true → s = mkB []
end Go.Proofs.YtdgejkiackeieaaDoor.Wr
end
section
set_option linter.unusedVariables false
set_option linter.unusedSimpArgs false
/- strings.ReplaceAll as a plain scan from the left. -/
set_option linter.unusedVariables false
set_option linter.unusedSimpArgs false
namespace Go.Proofs.YtdgejkiackeieaaDoor
/-- What ReplaceAll does: at each place, from the left, an instance is replaced, any other byte is kept. -/
def scan (old new : List UInt8) : Nat → List UInt8 → List UInt8
  | 0, s => s
  | _ + 1, [] => []
  | f + 1, b :: l => if old.isPrefixOf (b :: l) then new ++ scan old new f ((b :: l).drop old.length) else b :: scan old new f l
theorem scan_nil (old new : List UInt8) (f : Nat) : scan old new f [] = [] := by cases f <;> rfl
theorem scan_miss (old new : List UInt8) : ∀ (s : List UInt8) (f : Nat), Lib.index s old = -1 → scan old new f s = s := by
  intro s
  induction s with
  | nil => intro f _; exact scan_nil old new f
  | cons b l ih =>
    intro f h
    cases f with
    | zero => rfl
    | succ f =>
      have hg := Lib.index_ge l old
      rw [Lib.index] at h
      rw [scan]
      by_cases hp : old.isPrefixOf (b :: l) = true
      · rw [if_pos hp] at h; cases h
      · rw [if_neg hp] at h
        by_cases hm : (Lib.index l old == -1) = true
        · rw [if_neg hp, ih f (beq_iff_eq.1 hm)]
        · rw [if_neg hm] at h; omega
theorem scan_hit (old new : List UInt8) : ∀ (s : List UInt8) (f i : Nat), s.length ≤ f → Lib.index s old = (i : Int) → s ≠ [] → ∃ f', s.length ≤ f' + i + 1 ∧ scan old new f s = s.take i ++ new ++ scan old new f' (s.drop (i + old.length)) := by
  intro s
  induction s with
  | nil => intro f i _ _ h; exact absurd rfl h
  | cons b l ih =>
    intro f i hf h _
    simp only [List.length_cons] at hf
    obtain ⟨f, rfl⟩ : ∃ m, f = m + 1 := ⟨f - 1, by omega⟩
    have hg := Lib.index_ge l old
    rw [Lib.index] at h
    rw [scan]
    by_cases hp : old.isPrefixOf (b :: l) = true
    · rw [if_pos hp] at h
      obtain rfl : i = 0 := by omega
      refine ⟨f, by simp only [List.length_cons]; omega, ?_⟩
      rw [if_pos hp, List.take_zero, Nat.zero_add]
      rfl
    · rw [if_neg hp] at h
      by_cases hm : (Lib.index l old == -1) = true
      · rw [if_pos hm] at h; omega
      · rw [if_neg hm] at h
        obtain ⟨j, rfl⟩ : ∃ j, i = j + 1 := ⟨i - 1, by have : Lib.index l old ≠ -1 := fun e => hm (beq_iff_eq.2 e); omega⟩
        have hj : Lib.index l old = (j : Int) := by omega
        by_cases hln : l = []
        · subst hln
          -- old is not empty here, for it is no prefix of what follows
          rw [Lib.index] at hj
          by_cases he : old.isEmpty = true
          · have : old = [] := by simpa using he
            subst this
            simp at hp
          · rw [if_neg he] at hj; omega
        · obtain ⟨f', h1, h2⟩ := ih f j (by omega) hj hln
          refine ⟨f', by simp only [List.length_cons]; omega, ?_⟩
          rw [if_neg hp, h2, List.take_succ_cons, show j + 1 + old.length = (j + old.length) + 1 by omega, List.drop_succ_cons]
          rfl
theorem replaceK_scan (old new : List UInt8) (ho : old ≠ []) : ∀ (n : Nat) (s : List UInt8) (f : Nat), s.length ≤ n → s.length ≤ f → Lib.replaceK old new (Lib.count s old) s = scan old new f s := by
  have hl : 0 < old.length := List.length_pos_iff.2 ho
  intro n
  induction n with
  | zero =>
    intro s f h _
    obtain rfl : s = [] := List.eq_nil_of_length_eq_zero (by omega)
    have hi : Lib.index [] old = -1 := by
      rw [Lib.index, if_neg]; simpa using ho
    rw [Lib.count_miss hi, scan_nil]; rfl
  | succ n ih =>
    intro s f h hf
    by_cases hm : Lib.index s old = -1
    · rw [Lib.count_miss hm, scan_miss old new s f hm]; rfl
    · obtain ⟨i, hi⟩ : ∃ i : Nat, Lib.index s old = (i : Int) := ⟨(Lib.index s old).toNat, by have := Lib.index_ge s old; omega⟩
      by_cases hs : s = []
      · subst hs
        rw [Lib.index, if_neg (by simpa using ho)] at hi; omega
      obtain ⟨f', h1, h2⟩ := scan_hit old new s f i hf hi hs
      rw [h2, Lib.count_hit ho hi, Nat.add_comm 1, Lib.replaceK_hit old new _ s i hi]
      have hs0 : 0 < s.length := List.length_pos_iff.2 hs
      rw [ih (s.drop (i + old.length)) f' (by rw [List.length_drop]; omega) (by rw [List.length_drop]; omega)]
theorem scan_self (old : List UInt8) : ∀ (f : Nat) (s : List UInt8), scan old old f s = s := by
  intro f
  induction f with
  | zero => intro s; rfl
  | succ f ih =>
    intro s
    cases s with
    | nil => rfl
    | cons b l =>
      rw [scan]
      by_cases hp : old.isPrefixOf (b :: l) = true
      · rw [if_pos hp, ih]
        obtain ⟨t, ht⟩ := List.isPrefixOf_iff_prefix.1 hp
        rw [← ht, List.drop_left]
      · rw [if_neg hp, ih]
theorem replaceAll_scan (s old new : List UInt8) (ho : old ≠ []) : Lib.replaceAll s old new = scan old new s.length s := by
  unfold Lib.replaceAll Lib.replace
  by_cases he : (old == new) = true
  · rw [if_pos he, ← beq_iff_eq.1 he, scan_self]
  · rw [if_neg he]
    have : Lib.replaceNum s old (-1) = Lib.count s old := by unfold Lib.replaceNum; rw [if_pos (Or.inl (by decide))]
    rw [this, replaceK_scan old new ho s.length s s.length (Nat.le_refl _) (Nat.le_refl _)]
/-- At one byte. -/
theorem replaceAll_one (s : List UInt8) (c : UInt8) (new : List UInt8) : Lib.replaceAll s [c] new = s.flatMap fun b => if b = c then new else [b] := by
  rw [replaceAll_scan s [c] new (by simp)]
  have : ∀ (s : List UInt8) (f : Nat), s.length ≤ f → scan [c] new f s = s.flatMap fun b => if b = c then new else [b] := by
    intro s
    induction s with
    | nil => intro f _; rw [scan_nil]; rfl
    | cons b l ih =>
      intro f hf
      simp only [List.length_cons] at hf
      obtain ⟨f, rfl⟩ : ∃ m, f = m + 1 := ⟨f - 1, by omega⟩
      rw [scan, List.flatMap_cons]
      by_cases hb : b = c
      · subst hb
        rw [if_pos (by simp [List.isPrefixOf]), if_pos rfl]
        show new ++ scan _ _ f l = _
        rw [ih f (by omega)]
      · rw [if_neg (by simp [List.isPrefixOf]; exact fun h => hb h.symm), if_neg hb, ih f (by omega)]
        rfl
  exact this s s.length (Nat.le_refl _)
end Go.Proofs.YtdgejkiackeieaaDoor
end
section
set_option linter.unusedVariables false
set_option linter.unusedSimpArgs false
/- The library's contract of strings.ReplaceAll at this program's numbers. -/
set_option linter.unusedVariables false
namespace Go.Proofs
open Go.Shelf
def Tryd.lays155_ren : Go.Shelf.Ren := ⟨fun | 155 => 101 | 154 => 133 | 138 => 144 | 165 => 145 | 143 => 146 | 166 => 132 | 197 => 147 | 169 => 93 | 195 => 150 | 218 => 151 | 240 => 124 | 241 => 152 | 219 => 153 | 260 => 154 | 276 => 140 | 277 => 155 | 217 => 125 | 225 => 156 | 224 => 157 | 267 => 158 | 266 => 141 | 314 => 159 | n => n, fun | 9 => 9 | 3 => 3 | 4 => 4 | 72 => 91 | 0 => 0 | 76 => 138 | 105 => 149 | 21 => 21 | 5 => 5 | 70 => 89 | 20 => 20 | 37 => 30 | 75 => 93 | 127 => 125 | 164 => 144 | 46 => 64 | 119 => 155 | 139 => 158 | 138 => 157 | 146 => 151 | 51 => 97 | 80 => 71 | n => n, fun | 1 => 4 | 3 => 5 | 4 => 6 | n => n⟩
theorem Tryd.lays155 : Go.Proofs.Lays.n155 Tryd.prog Tryd.lays155_ren := {
  mixed := by kernel_rfl
  f138 := Tryd.func144.trans (congrArg some (by kernel_rfl))
  f143 := Tryd.func146.trans (congrArg some (by kernel_rfl))
  f154 := Tryd.func133.trans (congrArg some (by kernel_rfl))
  f155 := Tryd.func101.trans (congrArg some (by kernel_rfl))
  f165 := Tryd.func145.trans (congrArg some (by kernel_rfl))
  f166 := Tryd.func132.trans (congrArg some (by kernel_rfl))
  f169 := Tryd.func93.trans (congrArg some (by kernel_rfl))
  f195 := Tryd.func150.trans (congrArg some (by kernel_rfl))
  f197 := Tryd.func147.trans (congrArg some (by kernel_rfl))
  f217 := Tryd.func125.trans (congrArg some (by kernel_rfl))
  f218 := Tryd.func151.trans (congrArg some (by kernel_rfl))
  f219 := Tryd.func153.trans (congrArg some (by kernel_rfl))
  f224 := Tryd.func157.trans (congrArg some (by kernel_rfl))
  f225 := Tryd.func156.trans (congrArg some (by kernel_rfl))
  f240 := Tryd.func124.trans (congrArg some (by kernel_rfl))
  f241 := Tryd.func152.trans (congrArg some (by kernel_rfl))
  f260 := Tryd.func154.trans (congrArg some (by kernel_rfl))
  f266 := Tryd.func141.trans (congrArg some (by kernel_rfl))
  f267 := Tryd.func158.trans (congrArg some (by kernel_rfl))
  f276 := Tryd.func140.trans (congrArg some (by kernel_rfl))
  f277 := Tryd.func155.trans (congrArg some (by kernel_rfl))
  f314 := Tryd.func159.trans (congrArg some (by kernel_rfl))
  t0 := Tryd.underlying0
  a0 := Tryd.isAgg0
  z0 := Tryd.sizeOf0
  v0 := Tryd.zeroValue0
  t3 := Tryd.underlying3
  a3 := Tryd.isAgg3
  z3 := Tryd.sizeOf3
  v3 := Tryd.zeroValue3
  t4 := Tryd.underlying4
  a4 := Tryd.isAgg4
  z4 := Tryd.sizeOf4
  v4 := Tryd.zeroValue4
  t5 := Tryd.underlying5
  a5 := Tryd.isAgg5
  z5 := Tryd.sizeOf5
  v5 := Tryd.zeroValue5
  t9 := Tryd.underlying9
  a9 := Tryd.isAgg9
  z9 := Tryd.sizeOf9
  v9 := Tryd.zeroValue9
  t20 := Tryd.underlying20
  a20 := Tryd.isAgg20
  z20 := Tryd.sizeOf20
  v20 := Tryd.zeroValue20
  t21 := Tryd.underlying21
  a21 := Tryd.isAgg21
  z21 := Tryd.sizeOf21
  v21 := Tryd.zeroValue21
  t37 := Tryd.underlying30
  a37 := Tryd.isAgg30
  z37 := Tryd.sizeOf30
  v37 := Tryd.zeroValue30
  t46 := Tryd.underlying64
  a46 := Tryd.isAgg64
  z46 := Tryd.sizeOf64
  v46 := Tryd.zeroValue64
  t51 := Tryd.underlying97
  a51 := Tryd.isAgg97
  z51 := Tryd.sizeOf97
  v51 := Tryd.zeroValue97
  t70 := Tryd.underlying89
  a70 := Tryd.isAgg89
  z70 := Tryd.sizeOf89
  v70 := Tryd.zeroValue89
  t72 := Tryd.underlying91
  a72 := Tryd.isAgg91
  z72 := Tryd.sizeOf91
  v72 := Tryd.zeroValue91
  t75 := Tryd.underlying93
  a75 := Tryd.isAgg93
  z75 := Tryd.sizeOf93
  v75 := Tryd.zeroValue93
  t76 := Tryd.underlying138
  a76 := Tryd.isAgg138
  z76 := Tryd.sizeOf138
  v76 := Tryd.zeroValue138
  t105 := Tryd.underlying149
  a105 := Tryd.isAgg149
  z105 := Tryd.sizeOf149
  v105 := Tryd.zeroValue149
  t119 := Tryd.underlying155
  a119 := Tryd.isAgg155
  z119 := Tryd.sizeOf155
  t127 := Tryd.underlying125
  a127 := Tryd.isAgg125
  z127 := Tryd.sizeOf125
  v127 := Tryd.zeroValue125
  t138 := Tryd.underlying157
  a138 := Tryd.isAgg157
  z138 := Tryd.sizeOf157
  v138 := Tryd.zeroValue157
  t139 := Tryd.underlying158
  a139 := Tryd.isAgg158
  z139 := Tryd.sizeOf158
  v139 := Tryd.zeroValue158
  t146 := Tryd.underlying151
  a146 := Tryd.isAgg151
  z146 := Tryd.sizeOf151
  v146 := Tryd.zeroValue151
  t164 := Tryd.underlying144
  a164 := Tryd.isAgg144
  z164 := Tryd.sizeOf144
  v164 := Tryd.zeroValue144
  g1 := by kernel_rfl
  g3 := by kernel_rfl
  g4 := by kernel_rfl }
theorem Tryd.Builder_Extra_155 : Builder.Extra Tryd.prog Tryd.lays155_ren := {
  sizeBuilder := by kernel_rfl
  liesBuilder := by kernel_rfl
  t5 := Tryd.underlying5
  a5 := Tryd.isAgg5
  z5 := Tryd.sizeOf5
  v5 := Tryd.zeroValue5
  infoByte := by kernel_rfl
  cellsByte := by kernel_rfl
  sizeByte := by kernel_rfl
  neB5 := by decide }
open Go.RowKit Go.Lib in
theorem Tryd.strings_ReplaceAll (s old new : ByteArray) (m : Int) (w : World) (hs : s.size < 4294967281) (hm : w.cell? ⟨4, 0, none⟩ = some (.int .i64 m)) (h1 : 1 ≤ old.size) (hlen : s.size + Lib.countB s old * new.size ≤ 140737488355328) :
    Calls Tryd.prog 101 #[.string s, .string old, .string new] w fun e w' =>
      e = .returned (.string ⟨(Lib.replaceAll s.data.toList old.data.toList new.data.toList).toArray⟩) ∧ Below w.heap.size w w' := Any.strings_ReplaceAll Tryd.lays155 Tryd.Builder_Extra_155 s old new m w hs hm h1 hlen
end Go.Proofs
end
section
set_option linter.unusedVariables false
set_option linter.unusedSimpArgs false
/- The contracts of the writers of layer 2: Text, Int, Nums, Texts. -/
set_option linter.unusedVariables false
set_option linter.unusedSimpArgs false
namespace Go.Proofs.YtdgejkiackeieaaDoor
/-- The library's package-level variable that a search reads holds an int, in a block of the program's own. -/
structure MaxW (w : World) : Prop where mk :: (max : ∃ m : Int, w.cell? ⟨4, 0, none⟩ = some (.int .i64 m)) (five : 5 ≤ w.heap.size)
theorem MaxW.below {w w' : World} (h : MaxW w) (hb : RowKit.Below w.heap.size w w') : MaxW w' := by
  obtain ⟨⟨m, hm⟩, h5⟩ := h
  exact ⟨⟨m, by rw [hb.cell (p := ⟨4, 0, none⟩) (by show 4 < _; omega)]; exact hm⟩, Nat.le_trans h5 hb.size⟩
end Go.Proofs.YtdgejkiackeieaaDoor
namespace Go.Proofs.YtdgejkiackeieaaDoor.Wr
open Go.RowKit Go.Proofs.YtdgejkiackeieaaDoor Go.Proofs.YtdgejkiackeieaaDoor.PWr Go.Proofs.YtdgejkiackeieaaDoorW.PrintWords Go.Proofs.YtdgejkiackeieaaDoorW.PrintMore
theorem ret_s' {a b : ByteArray} (h : a = b) : Ending.returned (.string a) = .returned (.string b) := by rw [h]
theorem Repl_any (s old new : ByteArray) (w : World) (hM : MaxW w) (hs : s.size ≤ 10000000) (ho : 1 ≤ old.size) (hn : new.size ≤ 1000) :
    Calls Tryd.prog 101 #[.string s, .string old, .string new] w fun e w' => e = .returned (.string (mkB (Lib.replaceAll s.data.toList old.data.toList new.data.toList))) ∧ Below w.heap.size w w' := by
  obtain ⟨⟨m, hm⟩, h5⟩ := hM
  have hc := Lib.countB_mul_le old ho s.size s (Nat.le_refl _)
  have h1 : Lib.countB s old ≤ s.size := Nat.le_trans (Nat.le_mul_of_pos_right _ ho) hc
  have h2 : Lib.countB s old * new.size ≤ 10000000 * 1000 := Nat.mul_le_mul (by omega) hn
  exact Tryd.strings_ReplaceAll s old new m w (by omega) hm ho (by omega)
theorem textB_repl (l : List UInt8) : Lib.replaceAll l [0] [0, 255] ++ [0, 1] = textB l := by
  rw [replaceAll_one]; rfl
set_option maxRecDepth 100000 in
theorem Text_any (s : ByteArray) (w : World) (hM : MaxW w) (hs : s.size ≤ 1000000) : Calls Tryd.prog 40 #[.string s] w fun e w' => e = .returned (.string (mkB (textB s.data.toList))) ∧ Below w.heap.size w w' := by
  have hz : (Lib.replaceAll s.data.toList [0] [0, 255]).length ≤ 3 * s.size := by
    have h := (textB_length s.data.toList).2
    rw [← textB_repl, len_size, List.length_append] at h
    simp only [List.length_cons, List.length_nil] at h
    by_cases h0 : s.size = 0
    · have : s.data.toList = [] := List.eq_nil_of_length_eq_zero (by rw [len_size]; exact h0)
      rw [this, h0]; decide
    · omega
  obtain ⟨R, hR⟩ : ∃ R : ByteArray, mkB (Lib.replaceAll s.data.toList [0] [0, 255]) = R := ⟨_, rfl⟩
  have hRz : R.size ≤ 3000000 := by rw [← hR, mkB_size]; omega
  have hE : mkB (textB s.data.toList) = R ++ (⟨#[0, 1]⟩ : ByteArray) := by
    rw [← hR, ← textB_repl]; exact (mkB_append _ [0, 1]).symm
  have HR := Lib.hid hR
  have HE := Lib.hid hE
  have hb1 : R.size + 2 ≤ 9223372036854775807 := by omega
  clear hR hE hz
  go_enter Tryd.func40, Tryd.ntmps40
  go_wp2_with fail
  refine (Repl_any s ⟨#[0]⟩ ⟨#[0, 255]⟩ w hM (by omega) (by decide) (by decide)).mono ?_
  rw [show mkB (Lib.replaceAll s.data.toList (ByteArray.mk #[0]).data.toList (ByteArray.mk #[0, 255]).data.toList) = R from HR.out]
  rintro e w1 ⟨rfl, hb⟩
  go_wp2
  go_ret
  exact ⟨ret_s' HE.out.symm, hb⟩
theorem Int_any (n : Int) (w : World) (h : InR n) : Calls Tryd.prog 41 #[.int .i64 n] w fun e w' => e = .returned (.string (mkB (intB n))) ∧ Below w.heap.size w w' := by
  obtain ⟨k, hk⟩ := wire_Int_eq n h
  exact wire_Int.calls k n _ w hk
theorem builder_kept' {T e : TypeId} {B b : Nat} {bs : List Value} {w w' : World} (h : Lib.IsBuilderF T e B b bs w) (hb : Below w.heap.size w w') : Lib.IsBuilderF T e B b bs w' := by
  have hk : ∀ k, B ≤ k → k < w.heap.size → w'.heap[k]? = w.heap[k]? := fun k _ hlt => hb.block k hlt
  have one : ∀ p, Lib.BuilderAtF T e B b p bs w → Lib.BuilderAtF T e B b p bs w' := by
    rintro p ⟨hB, v, hb, ⟨hl, hv⟩, hne⟩
    refine ⟨hB, v, (hk b hB (Array.getElem?_eq_some_iff.1 hb).1).trans hb, ⟨hl, ?_⟩, hne⟩
    rcases hv with hv | ⟨g, cap, cur, fz, e1, e2, e3, e4⟩
    · exact .inl hv
    · exact .inr ⟨g, cap, cur, fz, e1, e2, (hk g e2 (Array.getElem?_eq_some_iff.1 e3).1).trans e3, e4⟩
  exact h.imp (one _) (one _)
end Go.Proofs.YtdgejkiackeieaaDoor.Wr
end
section
set_option linter.unusedVariables false
set_option linter.unusedSimpArgs false
/- What the rows of the other laws need: the world's shape beside the laid tables, and how slices are opened. -/
set_option linter.unusedVariables false
namespace Go.Proofs.YtdgejkiackeieaaDoor
open Go.RowKit Go.ChangeShapes
theorem returns_shaped {H : Type} {enc : TypeId × Value → H} {a : Assume} {C : Checked} {os : Os} {f : FuncId} {fn : Func} {s : ChangeSpec} {conds : List PathCond} {apart fresh handsOn again : Bool} {X : World → Array Value → Prop}
    (hX : ∀ (w w' : World) (args : Array Value), w.heap = w'.heap → X w args → X w' args)
    (own : ownKnob C.prog.godebug = none) (started : os.Started) (noInit : C.prog.inits.idxOf? f = none) (hfn : C.prog.funcs[f]? = some fn)
    (witness : ∃ (w : World) (tape : Tape) (i : Input), w.os = os ∧ (w.forCall tape i).Shaped C.prog ∧ i.vars = [] ∧ Input.okWide C.prog (w.forCall tape i) .any w.heap.size f i ∧
      ((s.pre enc C.prog fn conds apart (w.forCall tape i).memory i.args ∧ X (w.forCall tape i).memory i.args) ∧ sizedMet enc C.prog fn (OpenSpec.ofChange s) apart (w.forCall tape i).memory i.args) ∧ a.holds C.prog (lone (Frame.enter C.prog f i.args .normal) [] (w.forCall tape i)))
    (contract : ∀ (W : World) (base : Nat) (args : Array Value) (ds gs : List (DataW H)) (before : List MemPlace),
      (∀ (j : Nat) t v, fn.params[j]? = some t → args[j]? = some v → Value.okWide C.prog W .any base t v) →
      DataW.Whole enc C.prog fn.params.toList s.vars apart W args.toList ds gs before →
      conds.all (PathCond.test C.prog ⟨fn.params.toList, ds, s.plain.varTypes C.prog, gs⟩) = true →
      (DataW.weightsEach C.prog (fn.params.toList ++ s.plain.varTypes C.prog) (ds ++ gs)).all (· ≤ reachBytes) = true → X W args →
      W.ShapedOpen C.prog →
      Calls C.prog f args W fun e W' => ∃ v, e = .returned v ∧ s.post enc C.prog fn apart fresh handsOn again W args v W') :
    ReturnsInHanded a C os f .any (fun w args => (s.pre enc C.prog fn conds apart w args ∧ X w args) ∧ sizedMet enc C.prog fn (OpenSpec.ofChange s) apart w args) (s.post enc C.prog fn apart fresh handsOn again) := by
  refine returnsInHanded_of_calls own started noInit witness ?_
  intro w tape i _ hsh _ hok hpre hholds
  obtain ⟨_, _, _, fn', hfn', _, _, _, _, hval⟩ := hok
  have e : fn' = fn := Option.some.inj (hfn'.symm.trans hfn)
  subst e
  obtain ⟨⟨⟨ds, gs, before, hw, hc⟩, hx⟩, hz⟩ := hpre
  have hw' := DataW.Whole.of_heap (w' := w.forCall tape i) (by rfl) hw
  refine (contract (w.forCall tape i) w.heap.size i.args ds gs before hval hw' hc (hz.weights hw) (hX _ _ _ (by rfl) hx) hsh).mono fun e W' ⟨v, he, hp⟩ => ?_
  subst he
  exact ChangeSpec.post_blind hp
theorem maxw_of_shape {W : World} (hsh : W.ShapedOpen Tryd.prog) : MaxW W := by
  obtain ⟨m, hm⟩ := cell_of_shapedOpen_int (P := Tryd.prog) (g := 4) (t := 3) (zero := #[.int .i64 0]) hsh (of_decide_eq_true (by kernel_rfl)) (by kernel_rfl) rfl (by kernel_rfl) (by kernel_rfl) Tryd.underlying3
  exact ⟨⟨m, hm⟩, World.block_lt_of_cell? W _ hm⟩
end Go.Proofs.YtdgejkiackeieaaDoor
end
section
set_option linter.unusedVariables false
set_option linter.unusedSimpArgs false
/- The contract of the reader's Text (layer 2). -/
set_option linter.unusedVariables false
set_option linter.unusedSimpArgs false
namespace Go.Proofs.YtdgejkiackeieaaDoor.Wr
open Go.RowKit Go.Proofs.YtdgejkiackeieaaDoor Go.Proofs.YtdgejkiackeieaaDoor.PWr Go.Proofs.YtdgejkiackeieaaDoorW.PrintWords Go.Proofs.YtdgejkiackeieaaDoorW.PrintMore
/-- What a call leaves of the world: the reader's block apart, all that was there is as it was. -/
structure Lf (w0 w w' : World) (g : Nat) (s : ByteArray) (bad : Bool) : Prop where
  is : IsS117 w0 w' g s bad
  below : Below w0.heap.size w0 w'
  keep : KeepBut w w' g none
theorem KeepBut.trans_ {w w1 w2 : World} {g : Nat} (h : KeepBut w w1 g none) (k : KeepBut w1 w2 g none) : KeepBut w w2 g none := h.trans k (Or.inl rfl)
theorem Lf.trans {w0 w w1 w2 : World} {g : Nat} {s t : ByteArray} {bad bad' : Bool} (h : Lf w0 w w1 g s bad) (k : Lf w0 w1 w2 g t bad') : Lf w0 w w2 g t bad' := ⟨k.is, k.below, KeepBut.trans_ h.keep k.keep⟩
theorem Lf.more {w0 w w1 w2 : World} {g : Nat} {s : ByteArray} {bad : Bool} (h : Lf w0 w w1 g s bad) (B : Nat) (hB : w1.heap.size ≤ B ∨ (w.heap.size ≤ B ∧ g < B)) (hb : Below B w1 w2) : Lf w0 w w2 g s bad := by
  have hg : g < w1.heap.size := h.is.lt
  have hge := h.is.ge
  have hk := h.keep.1
  have hw0 := h.below.size
  refine ⟨⟨(hb.block g (by rcases hB with h | h <;> omega)).trans h.is.1, h.is.2⟩, h.below.trans (hb.mono (by rcases hB with h | h <;> omega)), ?_⟩
  refine ⟨Nat.le_trans hk hb.size, fun i hi hig _ => ?_⟩
  rw [hb.block i (by rcases hB with h | h <;> omega)]
  exact h.keep.2 i hi hig (by simp)
theorem byte_c (w0 w : World) (g : Nat) (s : ByteArray) (bad : Bool) (hI : IsS117 w0 w g s bad) (hB : Below w0.heap.size w0 w) (c : UInt8) (t : List UInt8) (cI : Int) (hl : s.data.toList = c :: t) (hc : (c.toNat : Int) = cI) :
    Calls Tryd.prog 117 #[.pointer (some ⟨g, 0, none⟩)] w fun e w' => e = .returned (.tuple #[.int .u8 cI, .bool true]) ∧ Lf w0 w w' g (mkB t) bad := by
  subst hc
  exact (wire_Reader_byte.calls g s bad _ _ _ _ w0 w hI hB (byte_cons s bad c t hl)).mono fun e w' ⟨he, h1, h2, h3⟩ => ⟨he, h1, h2, h3⟩
theorem byte_n (w0 w : World) (g : Nat) (s : ByteArray) (bad : Bool) (hI : IsS117 w0 w g s bad) (hB : Below w0.heap.size w0 w) (hl : s.data.toList = []) :
    Calls Tryd.prog 117 #[.pointer (some ⟨g, 0, none⟩)] w fun e w' => e = .returned (.tuple #[.int .u8 0, .bool false]) ∧ Lf w0 w w' g (mkB []) true :=
  (wire_Reader_byte.calls g s bad _ _ _ _ w0 w hI hB (byte_nil s bad hl)).mono fun e w' ⟨he, h1, h2, h3⟩ => ⟨he, h1, h2, h3⟩
theorem fail_c (w0 w : World) (g : Nat) (s : ByteArray) (bad : Bool) (hI : IsS117 w0 w g s bad) (hB : Below w0.heap.size w0 w) :
    Calls Tryd.prog 115 #[.pointer (some ⟨g, 0, none⟩)] w fun e w' => e = .returned (.tuple #[]) ∧ Lf w0 w w' g (mkB []) true :=
  (wire_Reader_fail.calls g s bad _ _ w0 w hI hB rfl).mono fun e w' ⟨he, h1, h2, h3⟩ => ⟨he, h1, h2, h3⟩
theorem byteCells_snoc (pre : List UInt8) (c : UInt8) : Lib.byteCells (pre ++ [c]) = Lib.byteCells pre ++ [.int .u8 (c.toNat : Int)] := by rw [Lib.byteCells_append]; rfl
theorem builder_kept {T e : TypeId} {B b : Nat} {bs : List Value} {w w' : World} (h : Lib.IsBuilderF T e B b bs w) (hk : ∀ k, B ≤ k → k < w.heap.size → w'.heap[k]? = w.heap[k]?) : Lib.IsBuilderF T e B b bs w' := by
  have one : ∀ p, Lib.BuilderAtF T e B b p bs w → Lib.BuilderAtF T e B b p bs w' := by
    rintro p ⟨hB, v, hb, ⟨hl, hv⟩, hne⟩
    refine ⟨hB, v, (hk b hB (Array.getElem?_eq_some_iff.1 hb).1).trans hb, ⟨hl, ?_⟩, hne⟩
    rcases hv with hv | ⟨g, cap, cur, fz, e1, e2, e3, e4⟩
    · exact .inl hv
    · exact .inr ⟨g, cap, cur, fz, e1, e2, (hk g e2 (Array.getElem?_eq_some_iff.1 e3).1).trans e3, e4⟩
  exact h.imp (one _) (one _)
theorem Lf.old {w0 w w' : World} {g : Nat} {s : ByteArray} {bad : Bool} (h : Lf w0 w w' g s bad) (B : Nat) (hg : g < B) : ∀ k, B ≤ k → k < w.heap.size → w'.heap[k]? = w.heap[k]? := fun k hk hlt => h.keep.2 k hlt (by omega) (by simp)
theorem ret_s {a b : ByteArray} (h : a = b) : Ending.returned (.string a) = .returned (.string b) := by rw [h]
theorem ne_int (c : UInt8) (n : Nat) (hn : n < 256) (h : ¬ c = UInt8.ofNat n) : ¬ (c.toNat : Int) = (n : Int) := fun h' => h ((byte_eq_iff c n hn).1 h')
set_option maxHeartbeats 8000000 in
set_option maxRecDepth 100000 in
theorem RText_any (g : Nat) (s : ByteArray) (bad : Bool) (w0 w : World) (hI : IsS117 w0 w g s bad) (hB : Below w0.heap.size w0 w) (hs : s.size ≤ 10000000) :
    Calls Tryd.prog 74 #[.pointer (some ⟨g, 0, none⟩)] w fun e w' => e = .returned (.string (rdrS (textR s.data.toList) bad).1) ∧ Lf w0 w w' g (rdrS (textR s.data.toList) bad).2.1 (rdrS (textR s.data.toList) bad).2.2 := by
  have hg := hI.lt
  have hz : s.size = s.data.toList.length := (len_size s).symm
  have HI := Lib.hid hI; have HB := Lib.hid hB; have HZ := Lib.hid hz
  clear hI hB hz
  go_enter Tryd.func74, Tryd.ntmps74
  go_wp2
  go_loopg [] (s.size + 1) (fun gk wr => ∃ (pre : List UInt8) (q : ByteArray), Hid (Lf w0 w wr g q bad) ∧ Lib.IsBuilderF 91 5 w.heap.size w.heap.size (Lib.byteCells pre) wr ∧ w.heap.size ≤ wr.heap.size ∧ pre.length + q.data.toList.length ≤ 10000000 ∧ q.data.toList.length < gk ∧ Hid (rdrSp pre (textR q.data.toList) bad = rdrS (textR s.data.toList) bad))
  case atStart =>
    refine ⟨[], s, Lib.hid ?_, Lib.IsBuilderF.of (Lib.fresh_isBuilder 91 5 w), by simp, by rw [← HZ.out]; simp; exact hs, by rw [← HZ.out]; omega, Lib.hid ?_⟩
    · exact Lf.more ⟨HI.out, HB.out, KeepBut.refl w g none⟩ w.heap.size (Or.inl (Nat.le_refl _)) ((Below.refl _ _).alloc (Nat.le_refl _) _)
    · cases textR s.data.toList <;> rfl
  case round =>
    obtain ⟨pre, q, hL, hbd, hsz, hlen, hgk, hR⟩ := hrel
    cases gk with
    | zero => omega
    | succ gk =>
      cases hq : q.data.toList with
      | nil =>
        have HQ := Lib.hid hq
        clear hq
        go_wp2_with (go_at_call 117; refine (byte_n w0 _ g q bad hL.out.is hL.out.below HQ.out).mono ?_; rintro e w1 ⟨rfl, h1⟩)
        go_ret
        have e := hR.out
        rw [HQ.out] at e
        exact ⟨ret_s (by rw [← e]; rfl), by rw [← e]; exact hL.out.trans h1⟩
      | cons c t =>
        rw [hq] at hlen hgk
        simp only [List.length_cons] at hlen hgk
        have e := hR.out
        rw [hq] at e
        have HQ := Lib.hid hq
        clear hq hR
        obtain ⟨cI, hcI⟩ : ∃ cI : Int, (c.toNat : Int) = cI := ⟨_, rfl⟩
        by_cases h0 : c = 0
        · have hz0 : (cI != 0) = false := by rw [← hcI, h0]; rfl
          cases ht : t with
          | nil =>
            subst ht
            have HE := Lib.hid e
            have HC := Lib.hid hcI
            clear e hcI h0
            go_wp2_with (go_at_call 117; refine (byte_c w0 _ g q bad hL.out.is hL.out.below c [] cI HQ.out HC.out).mono ?_; rintro e w1 ⟨rfl, h1⟩)
            have H1 := Lib.hid h1
            clear h1
            go_wp2_with (go_at_call 117; refine (byte_n w0 _ g (mkB []) bad H1.out.is H1.out.below rfl).mono ?_; rintro e w2 ⟨rfl, h2⟩)
            have H2 := Lib.hid h2
            clear h2
            go_wp2_with (go_at_call 115; refine (fail_c w0 _ g (mkB []) true H2.out.is H2.out.below).mono ?_; rintro e w3 ⟨rfl, h3⟩)
            go_ret
            have e := HE.out
            exact ⟨ret_s (by rw [← e]; rfl), by rw [← e]; exact ((hL.out.trans H1.out).trans H2.out).trans h3⟩
          | cons d t' =>
            subst ht
            simp only [List.length_cons] at hlen hgk
            obtain ⟨dI, hdI⟩ : ∃ dI : Int, (d.toNat : Int) = dI := ⟨_, rfl⟩
            have hd0 : 0 ≤ dI := by omega
            rw [h0, textR, if_pos rfl] at e
            by_cases h255 : d = 255
            · have k1 : (dI == 255) = true := by rw [← hdI, h255]; rfl
              rw [if_pos h255] at e
              have HE := Lib.hid e
              have HC := Lib.hid hcI
              have HD := Lib.hid hdI
              clear e hcI hdI h0 h255
              go_wp2_with (go_at_call 117; refine (byte_c w0 _ g q bad hL.out.is hL.out.below c (d :: t') cI HQ.out HC.out).mono ?_; rintro e w1 ⟨rfl, h1⟩)
              have H1 := Lib.hid h1
              clear h1
              go_wp2_with (go_at_call 117; refine (byte_c w0 _ g (mkB (d :: t')) bad H1.out.is H1.out.below d t' dI rfl HD.out).mono ?_; rintro e w2 ⟨rfl, h2⟩)
              have hbd2 := builder_kept (builder_kept hbd (Lf.old H1.out w.heap.size hg)) (fun k hk hlt => Lf.old h2 w.heap.size hg k hk hlt)
              have hL2 := (hL.out.trans H1.out).trans h2
              have hsz2 : w.heap.size ≤ w2.heap.size := hL2.keep.1
              have H2 := Lib.hid hL2
              clear h2 hL2
              go_wp2_with (go_at_call 92; refine (writeByte_any w.heap.size w.heap.size _ _ _ hbd2 (by rw [Lib.byteCells_length]; omega) hsz2).mono ?_; rintro e w3 ⟨rfl, h3, b3, _⟩)
              go_roundg gk
              case measure => omega
              case rel =>
                refine ⟨pre ++ [0], mkB t', Lib.hid (H2.out.more w.heap.size (Or.inr ⟨Nat.le_refl _, hg⟩) b3), ?_, Nat.le_trans hsz2 b3.size, ?_, ?_, Lib.hid ?_⟩
                · rw [byteCells_snoc]; exact Or.inr h3
                · rw [mkB_list, List.length_append, List.length_singleton]; omega
                · rw [mkB_list]; omega
                · rw [← HE.out, rdrSp_map]
            · have k1 : (dI == 255) = false := by
                rw [← hdI]; exact beq_eq_false_iff_ne.2 (ne_int d 255 (by decide) h255)
              rw [if_neg h255] at e
              by_cases h1' : d = 1
              · have k2 : (dI == 1) = true := by rw [← hdI, h1']; rfl
                rw [if_pos h1'] at e
                have HE := Lib.hid e
                have HC := Lib.hid hcI
                have HD := Lib.hid hdI
                clear e hcI hdI h0 h255 h1'
                go_wp2_with (go_at_call 117; refine (byte_c w0 _ g q bad hL.out.is hL.out.below c (d :: t') cI HQ.out HC.out).mono ?_; rintro e w1 ⟨rfl, h1⟩)
                have H1 := Lib.hid h1
                clear h1
                go_wp2_with (go_at_call 117; refine (byte_c w0 _ g (mkB (d :: t')) bad H1.out.is H1.out.below d t' dI rfl HD.out).mono ?_; rintro e w2 ⟨rfl, h2⟩)
                have hbd2 := builder_kept (builder_kept hbd (Lf.old H1.out w.heap.size hg)) (fun k hk hlt => Lf.old h2 w.heap.size hg k hk hlt)
                have hL2 := (hL.out.trans H1.out).trans h2
                have hsz2 : w.heap.size ≤ w2.heap.size := hL2.keep.1
                have H2 := Lib.hid hL2
                clear h2 hL2
                go_wp2_with (go_at_call 93; refine (Tryd.Builder_String_any_k w.heap.size w.heap.size _ w2 hbd2 hsz2).mono ?_; rintro e w3 ⟨rfl, _, b3, _⟩)
                go_ret
                have e := HE.out
                refine ⟨ret_s (by rw [← e]; show _ = mkB (pre ++ []); rw [List.append_nil]), ?_⟩
                rw [← e]
                exact H2.out.more w.heap.size (Or.inr ⟨Nat.le_refl _, hg⟩) b3
              · have k2 : (dI == 1) = false := by
                  rw [← hdI]; exact beq_eq_false_iff_ne.2 (ne_int d 1 (by decide) h1')
                rw [if_neg h1'] at e
                have HE := Lib.hid e
                have HC := Lib.hid hcI
                have HD := Lib.hid hdI
                clear e hcI hdI h0 h255 h1'
                go_wp2_with (go_at_call 117; refine (byte_c w0 _ g q bad hL.out.is hL.out.below c (d :: t') cI HQ.out HC.out).mono ?_; rintro e w1 ⟨rfl, h1⟩)
                have H1 := Lib.hid h1
                clear h1
                go_wp2_with (go_at_call 117; refine (byte_c w0 _ g (mkB (d :: t')) bad H1.out.is H1.out.below d t' dI rfl HD.out).mono ?_; rintro e w2 ⟨rfl, h2⟩)
                have H2 := Lib.hid h2
                clear h2
                go_wp2_with (go_at_call 115; refine (fail_c w0 _ g (mkB t') bad H2.out.is H2.out.below).mono ?_; rintro e w3 ⟨rfl, h3⟩)
                go_ret
                have e := HE.out
                exact ⟨ret_s (by rw [← e]; rfl), by rw [← e]; exact ((hL.out.trans H1.out).trans H2.out).trans h3⟩
        · have hz0 : (cI != 0) = true := by
            rw [← hcI]; exact bne_iff_ne.2 (ne_int c 0 (by decide) h0)
          rw [textR_ne c h0] at e
          have HE := Lib.hid e
          have HC := Lib.hid hcI
          clear e hcI h0
          go_wp2_with (go_at_call 117; refine (byte_c w0 _ g q bad hL.out.is hL.out.below c t cI HQ.out HC.out).mono ?_; rintro e w1 ⟨rfl, h1⟩)
          have hbd1 := builder_kept hbd (Lf.old h1 w.heap.size hg)
          have hL1 := hL.out.trans h1
          have hsz1 : w.heap.size ≤ w1.heap.size := hL1.keep.1
          have H1 := Lib.hid hL1
          clear h1 hL1
          go_wp2_with (go_at_call 92; refine (writeByte_any w.heap.size w.heap.size _ _ _ hbd1 (by rw [Lib.byteCells_length]; omega) hsz1).mono ?_; rintro e w2 ⟨rfl, h2, b2, _⟩)
          go_roundg gk
          case measure => omega
          case rel =>
            refine ⟨pre ++ [c], mkB t, Lib.hid (H1.out.more w.heap.size (Or.inr ⟨Nat.le_refl _, hg⟩) b2), ?_, Nat.le_trans hsz1 b2.size, ?_, ?_, Lib.hid ?_⟩
            · rw [byteCells_snoc, HC.out]; exact Or.inr h2
            · rw [mkB_list, List.length_append, List.length_singleton]; omega
            · rw [mkB_list]; omega
            · rw [← HE.out, rdrSp_map]
end Go.Proofs.YtdgejkiackeieaaDoor.Wr
end
section
set_option linter.unusedVariables false
set_option linter.unusedSimpArgs false
/- The contracts of the readers of lists (layer 2). -/
set_option linter.unusedVariables false
set_option linter.unusedSimpArgs false
namespace Go.Proofs.YtdgejkiackeieaaDoor.Wr
open Go.RowKit Go.Proofs.YtdgejkiackeieaaDoor Go.Proofs.YtdgejkiackeieaaDoor.PWr Go.Proofs.YtdgejkiackeieaaDoorW.PrintWords Go.Proofs.YtdgejkiackeieaaDoorW.PrintMore
theorem RInt_any (g : Nat) (s : ByteArray) (bad : Bool) (w0 w : World) (hI : IsS117 w0 w g s bad) (hB : Below w0.heap.size w0 w) (hs : s.size ≤ 10000000) :
    Calls Tryd.prog 72 #[.pointer (some ⟨g, 0, none⟩)] w fun e w' => e = .returned (.int .i64 (rdr (intR s.data.toList) 0 bad).1) ∧ Lf w0 w w' g (rdr (intR s.data.toList) 0 bad).2.1 (rdr (intR s.data.toList) 0 bad).2.2 := by
  obtain ⟨k, hk⟩ := Reader_Int_eq s hs bad
  exact (wire_Reader_Int.calls k g s bad _ _ _ w0 w hI hB hk).mono fun e w' ⟨he, h1, h2, h3⟩ => ⟨he, h1, h2, h3⟩
theorem Okr.cons {s : ByteArray} {bad : Bool} (h : Okr s bad) {c : UInt8} {t : List UInt8} (hl : s.data.toList = c :: t) : bad = false := by
  cases bad with
  | false => rfl
  | true => rw [h rfl] at hl; cases hl
theorem info9 : (Tryd.prog.info? 9).map (fun i => (i.zero, i.size, i.bytes)) = some (some (.string ⟨#[]⟩), 1, 16) := by kernel_rfl
end Go.Proofs.YtdgejkiackeieaaDoor.Wr
end
section
set_option linter.unusedVariables false
set_option linter.unusedSimpArgs false
/- The contract of the reference's reader's Int, Num, Nums (layer 2). -/
set_option linter.unusedVariables false
set_option linter.unusedSimpArgs false
namespace Go.Proofs.YtdgejkiackeieaaDoor.Wr
open Go.RowKit Go.Proofs.YtdgejkiackeieaaDoor Go.Proofs.YtdgejkiackeieaaDoor.PWr Go.Proofs.YtdgejkiackeieaaDoorW.PrintWords Go.Proofs.YtdgejkiackeieaaDoorW.PrintMore Go.Proofs.YtdgejkiackeieaaDoorW.PrintLast
/-- What a call leaves of the world: the reference's reader's block apart, all that was there is as it was. -/
structure Lg (w0 w w' : World) (g : Nat) (s : ByteArray) (bad : Bool) : Prop where
  is : IsS119 w0 w' g s bad
  below : Below w0.heap.size w0 w'
  keep : KeepBut w w' g none
theorem Lg.trans {w0 w w1 w2 : World} {g : Nat} {s t : ByteArray} {bad bad' : Bool} (h : Lg w0 w w1 g s bad) (k : Lg w0 w1 w2 g t bad') : Lg w0 w w2 g t bad' := ⟨k.is, k.below, KeepBut.trans_ h.keep k.keep⟩
theorem Lg.more {w0 w w1 w2 : World} {g : Nat} {s : ByteArray} {bad : Bool} (h : Lg w0 w w1 g s bad) (B : Nat) (hB : w1.heap.size ≤ B ∨ (w.heap.size ≤ B ∧ g < B)) (hb : Below B w1 w2) : Lg w0 w w2 g s bad := by
  have hg : g < w1.heap.size := h.is.lt
  have hge := h.is.ge
  have hk := h.keep.1
  have hw0 := h.below.size
  refine ⟨⟨(hb.block g (by rcases hB with h | h <;> omega)).trans h.is.1, h.is.2⟩, h.below.trans (hb.mono (by rcases hB with h | h <;> omega)), ?_⟩
  refine ⟨Nat.le_trans hk hb.size, fun i hi hig _ => ?_⟩
  rw [hb.block i (by rcases hB with h | h <;> omega)]
  exact h.keep.2 i hi hig (by simp)
theorem Lg.old {w0 w w' : World} {g : Nat} {s : ByteArray} {bad : Bool} (h : Lg w0 w w' g s bad) (B : Nat) (hg : g < B) : ∀ k, B ≤ k → k < w.heap.size → w'.heap[k]? = w.heap[k]? := fun k hk hlt => h.keep.2 k hlt (by omega) (by simp)
theorem ext_l {s t : ByteArray} (h : s.toList = t.toList) : s = t := ext_ (by rw [← ByteArray.toList_eq, h, ByteArray.toList_eq])
theorem extract_take (s : ByteArray) (n : Nat) : s.extract 0 n = mkB (s.data.toList.take n) := by
  apply ext_
  rw [Lib.extract_data, mkB_list]; simp
end Go.Proofs.YtdgejkiackeieaaDoor.Wr
end
section
set_option linter.unusedVariables false
set_option linter.unusedSimpArgs false
/- The rest of the contracts of both readers (layer 2): Int, Num, Nums, Left, Done, Open. -/
set_option linter.unusedVariables false
set_option linter.unusedSimpArgs false
namespace Go.Proofs.YtdgejkiackeieaaDoor.Wr
open Go.RowKit Go.Proofs.YtdgejkiackeieaaDoor Go.Proofs.YtdgejkiackeieaaDoor.PWr Go.Proofs.YtdgejkiackeieaaDoorW.PrintWords Go.Proofs.YtdgejkiackeieaaDoorW.PrintMore Go.Proofs.YtdgejkiackeieaaDoorW.PrintLast
theorem RDone_any (g : Nat) (s : ByteArray) (bad : Bool) (w0 w : World) (hI : IsS117 w0 w g s bad) (hB : Below w0.heap.size w0 w) :
    Calls Tryd.prog 84 #[.pointer (some ⟨g, 0, none⟩)] w fun e w' => e = .returned (.bool (!bad && (s.toList == ([] : List UInt8)))) ∧ w' = w := by
  have hcz0 := cellS117_0 hI.1
  have hcz1 := cellS117_1 hI.1
  have HI := Lib.hid hI
  clear hI hB
  cases bad with
  | true =>
    go_enter Tryd.func84, Tryd.ntmps84
    go_wp2
    go_ret
    exact ⟨rfl, rfl⟩
  | false =>
    go_enter Tryd.func84, Tryd.ntmps84
    go_wp2
    go_ret
    exact ⟨by simp, rfl⟩
theorem ROpen_any (s : ByteArray) (w0 w : World) (hB : Below w0.heap.size w0 w) :
    Calls Tryd.prog 68 #[.string s] w fun e w' => e = .returned (.pointer (some ⟨w.heap.size, 0, none⟩)) ∧ IsS117 w0 w' w.heap.size s false ∧ Below w0.heap.size w0 w' ∧ Below w.heap.size w w' := by
  go_enter Tryd.func68, Tryd.ntmps68
  go_wp2
  go_ret
  exact ⟨rfl, IsS117.new w0 w s false hB, hB.alloc hB.size _, (Below.refl _ w).alloc (Nat.le_refl _) _⟩
theorem rdr_le (s : List UInt8) (b : Bool) : (rdr (intR s) (0 : Int) b).2.1.data.toList.length ≤ s.length := by
  cases h : intR s with
  | none => simp [rdr, mkB_list]
  | some p => obtain ⟨x, r⟩ := p; have := intR_length s x r h; simp only [rdr, mkB_list]; omega
end Go.Proofs.YtdgejkiackeieaaDoor.Wr
end
section
set_option linter.unusedVariables false
set_option linter.unusedSimpArgs false
/- The fixed example of layer 2's laws, and wire.Num. -/
set_option linter.unusedVariables false
set_option linter.unusedSimpArgs false
namespace Go.Proofs.YtdgejkiackeieaaDoor.Wr
open Go.RowKit Go.Proofs.YtdgejkiackeieaaDoor Go.Proofs.YtdgejkiackeieaaDoor.PWr Go.Proofs.YtdgejkiackeieaaDoorW.PrintWords Go.Proofs.YtdgejkiackeieaaDoorW.PrintMore Go.Proofs.YtdgejkiackeieaaDoorW.PrintLast
theorem nil_beq (l : List UInt8) : ((mkB l).toList == ([] : List UInt8)) = decide (l = []) := by
  rw [ByteArray.toList_eq, mkB_list]
  cases l <;> rfl
end Go.Proofs.YtdgejkiackeieaaDoor.Wr
end
section
set_option linter.unusedVariables false
set_option linter.unusedSimpArgs false
/- Layer 24: the numbers of a telegram. -/
set_option linter.unusedVariables false
set_option linter.unusedSimpArgs false
namespace Go.Proofs.YtdgejkiackeieaaDoor.Gm
open Go.RowKit Go.Proofs.YtdgejkiackeieaaDoor Go.Proofs.YtdgejkiackeieaaDoor.Wr Go.Proofs.YtdgejkiackeieaaDoorW.PrintWords Go.Proofs.YtdgejkiackeieaaDoorW.PrintMore Go.Proofs.YtdgejkiackeieaaDoorW.PrintLast
attribute [local go_sem] max2_int min2_int
/-- The limits of the numbers, as the program lays them. -/
structure LimW (w : World) : Prop where mk ::
  (high : ∃ u fr, w.heap[2]? = some (.cells #[.int .i64 127, .int .i64 1099511627776, .int .i64 1006633019, .int .i64 1099511627776] u fr))
  (low : ∃ u fr, w.heap[3]? = some (.cells #[.int .i64 0, .int .i64 0, .int .i64 0, .int .i64 (-1099511627776)] u fr))
theorem LimW.below {w w' : World} {B : Nat} (h : LimW w) (hb : Below B w w') (hB : 4 ≤ B) (h4 : 4 ≤ w.heap.size) : LimW w' := by
  obtain ⟨⟨u1, f1, h1⟩, ⟨u2, f2, h2⟩⟩ := h
  exact ⟨⟨u1, f1, (hb.block 2 (by omega)).trans h1⟩, ⟨u2, f2, (hb.block 3 (by omega)).trans h2⟩⟩
set_option maxRecDepth 100000 in
theorem of_any (a b c d : Int) (t : ByteArray) (w : World) : Calls Tryd.prog 131 #[.agg #[.int .i64 a, .int .i64 b, .int .i64 c, .int .i64 d, .string t]] w fun e w' => e = .returned (.agg #[.int .i64 a, .int .i64 b, .int .i64 c, .int .i64 d]) ∧ Below w.heap.size w w' := by
  go_enter Tryd.func131, Tryd.ntmps131
  go_wp2
  refine bodyPost_ret (results_cell_row rfl _ _ (w.heap.size + 1) 136 _ (0, 0) _ rfl (by simpa using heap_alloc_new (w.alloc _) _) Tryd.underlying136 rfl (by kernel_rfl)) rfl ?_
  exact ⟨rfl, ((Below.refl _ w).alloc (Nat.le_refl _) _).alloc (by simp) _⟩
/-- A number within its limits. -/
def clampI (x lo hi : Int) : Int := max (min x hi) lo



theorem cellF {W : World} {g : Nat} {cs : Array Value} {t : TypeId} {fr : Nat × Nat} (h : W.heap[g]? = some (.cells cs t fr)) (i : Nat) : W.cell? ⟨g, i, none⟩ = cs[i]? := by simp [World.cell?, h]
def clamps (k : Nat) (a b c d : Int) : Array Value := #[.int .i64 (if k < 1 then a else clampI a 0 127), .int .i64 (if k < 2 then b else clampI b 0 1099511627776), .int .i64 (if k < 3 then c else clampI c 0 1006633019), .int .i64 (if k < 4 then d else clampI d (-1099511627776) 1099511627776)]
set_option maxHeartbeats 4000000 in
set_option maxRecDepth 100000 in
theorem clamp_any (a b c d : Int) (w : World) (hL : LimW w) (h4s : 4 ≤ w.heap.size) : Calls Tryd.prog 135 #[.agg #[.int .i64 a, .int .i64 b, .int .i64 c, .int .i64 d]] w fun e w' => e = .returned (.agg (clamps 4 a b c d)) ∧ Below w.heap.size w w' := by
  have HLM := Lib.hid hL
  clear hL
  go_enter Tryd.func135, Tryd.ntmps135
  go_wp2
  go_loopw [3, 4] (fun v3 v4 wr => ∃ k : Nat, k ≤ 4 ∧ v4 = .int .i64 k ∧ wr.heap[w.heap.size]? = some (.cells (clamps k a b c d) 136 (0, 0)) ∧ (∃ cs, wr.heap[w.heap.size + 1]? = some (.cells cs 136 (0, 0)) ∧ cs.size = 4) ∧ Below w.heap.size w wr) (fun _ v4 _ => 4 - (intOf v4).toNat)
  case atStart =>
    refine ⟨0, by omega, rfl, ?_, ?_, ?_⟩
    · exact (((Below.refl _ (w.alloc _)).alloc (Nat.le_refl _) _).block w.heap.size (by simp)).trans (heap_alloc_new w _)
    · exact ⟨_, by simpa using heap_alloc_new (w.alloc _) _, rfl⟩
    · exact ((Below.refl _ w).alloc (Nat.le_refl _) _).alloc (by simp) _
  case round =>
    obtain ⟨k, hk, rfl, hb, ⟨cs, hc, hcs⟩, hbw⟩ := hrel
    by_cases h4 : k < 4
    · obtain ⟨⟨u1, f1, l1⟩, ⟨u2, f2, l2⟩⟩ := HLM.out
      have l1' := (hbw.block 2 (by omega)).trans l1
      have l2' := (hbw.block 3 (by omega)).trans l2
      have HC := Lib.hid hc; have HB := Lib.hid hb
      have hk' : k = 0 ∨ k = 1 ∨ k = 2 ∨ k = 3 := by omega
      rcases hk' with rfl | rfl | rfl | rfl
      · have c0 : wr.cell? ⟨w.heap.size, 0, none⟩ = some (.int .i64 a) := (blk_cell hb 0).trans rfl
        have c1 : wr.cell? ⟨2, 0, none⟩ = some (.int .i64 127) := (cellF l1' 0).trans rfl
        have c2 : wr.cell? ⟨3, 0, none⟩ = some (.int .i64 0) := (cellF l2' 0).trans rfl
        have c3 := blk_frozen hb 0
        clear hb hc l1' l2' l1 l2
        go_wp2
        go_region
        go_wp2
        go_roundw
        case rel => exact ⟨1, by omega, rfl, blk_set HB.out 0 _, ⟨cs, blk_far HC.out (by show w.heap.size + 1 ≠ w.heap.size; omega) _, hcs⟩, below_drew (below_set hbw (Nat.le_refl _))⟩
        case measure => simp [intOf]
      · have c0 : wr.cell? ⟨w.heap.size, 1, none⟩ = some (.int .i64 b) := (blk_cell hb 1).trans rfl
        have c1 : wr.cell? ⟨2, 1, none⟩ = some (.int .i64 1099511627776) := (cellF l1' 1).trans rfl
        have c2 : wr.cell? ⟨3, 1, none⟩ = some (.int .i64 0) := (cellF l2' 1).trans rfl
        have c3 := blk_frozen hb 1
        clear hb hc l1' l2' l1 l2
        go_wp2
        go_region
        go_wp2
        go_roundw
        case rel => exact ⟨2, by omega, rfl, blk_set HB.out 1 _, ⟨cs, blk_far HC.out (by show w.heap.size + 1 ≠ w.heap.size; omega) _, hcs⟩, below_drew (below_set hbw (Nat.le_refl _))⟩
        case measure => simp [intOf]
      · have c0 : wr.cell? ⟨w.heap.size, 2, none⟩ = some (.int .i64 c) := (blk_cell hb 2).trans rfl
        have c1 : wr.cell? ⟨2, 2, none⟩ = some (.int .i64 1006633019) := (cellF l1' 2).trans rfl
        have c2 : wr.cell? ⟨3, 2, none⟩ = some (.int .i64 0) := (cellF l2' 2).trans rfl
        have c3 := blk_frozen hb 2
        clear hb hc l1' l2' l1 l2
        go_wp2
        go_region
        go_wp2
        go_roundw
        case rel => exact ⟨3, by omega, rfl, blk_set HB.out 2 _, ⟨cs, blk_far HC.out (by show w.heap.size + 1 ≠ w.heap.size; omega) _, hcs⟩, below_drew (below_set hbw (Nat.le_refl _))⟩
        case measure => simp [intOf]
      · have c0 : wr.cell? ⟨w.heap.size, 3, none⟩ = some (.int .i64 d) := (blk_cell hb 3).trans rfl
        have c1 : wr.cell? ⟨2, 3, none⟩ = some (.int .i64 1099511627776) := (cellF l1' 3).trans rfl
        have c2 : wr.cell? ⟨3, 3, none⟩ = some (.int .i64 (-1099511627776)) := (cellF l2' 3).trans rfl
        have c3 := blk_frozen hb 3
        clear hb hc l1' l2' l1 l2
        go_wp2
        go_region
        go_wp2
        go_roundw
        case rel => exact ⟨4, by omega, rfl, blk_set HB.out 3 _, ⟨cs, blk_far HC.out (by show w.heap.size + 1 ≠ w.heap.size; omega) _, hcs⟩, below_drew (below_set hbw (Nat.le_refl _))⟩
        case measure => simp [intOf]
    · obtain rfl : k = 4 := by omega
      have hi : (Tryd.prog.info? 136).map (·.size) = some (clamps 4 a b c d).size := by
        rw [show (clamps 4 a b c d).size = 4 from rfl]; kernel_rfl
      have hz : cs.size = (clamps 4 a b c d).size := hcs
      have ho : (clamps 4 a b c d).all (·.oneCell') = true := by simp [clamps, Value.oneCell']
      go_wp2_with (first | refine wpList_load_row rfl 136 _ rfl w.heap.size rfl 136 _ (0, 0) _ hb Tryd.underlying136 rfl hi ?_ | refine wpList_store_row rfl 136 _ _ rfl (w.heap.size + 1) _ rfl rfl 136 _ hc hi hz ho ?_)
      have hF := setRow_heap wr (w.heap.size + 1) _ (clamps 4 a b c d) 136 (0, 0) hc
      refine bodyPost_ret (results_cell_row rfl _ _ (w.heap.size + 1) 136 _ (0, 0) _ rfl hF Tryd.underlying136 rfl hi) rfl ?_
      exact ⟨rfl, below_setRow hbw (by omega) _⟩
end Go.Proofs.YtdgejkiackeieaaDoor.Gm
end
section
set_option linter.unusedVariables false
set_option linter.unusedSimpArgs false
/- How the arguments of the laws are opened: a telegram, slices of telegrams, of values, of strings. -/
set_option linter.unusedVariables false
set_option linter.unusedSimpArgs false
namespace Go.Proofs.YtdgejkiackeieaaDoor
open Go.RowKit Go.ChangeShapes Go.WideShapes Go.Proofs.YtdgejkiackeieaaDoor.Wr Go.Proofs.YtdgejkiackeieaaDoorW.PrintWords
theorem i64_of_wf {x : Int} (h : (Lit.int .i64 x).wf = true) : InR x := by
  have : -9223372036854775808 ≤ x ∧ x ≤ 9223372036854775807 := by simpa [Lit.wf, IntKind.min, IntKind.max, IntKind.signed, IntKind.bits] using h
  exact this
theorem five_of {α : Type} {cs : List α} {v0 v1 v2 v3 v4 : α} (hl : cs.length = 5) (h0 : (cs.drop 0).take 1 = [v0]) (h1 : (cs.drop 1).take 1 = [v1]) (h2 : (cs.drop 2).take 1 = [v2]) (h3 : (cs.drop 3).take 1 = [v3]) (h4 : (cs.drop 4).take 1 = [v4]) : cs = [v0, v1, v2, v3, v4] := by
  match cs, hl with
  | [c0, c1, c2, c3, c4], _ => simp at h0 h1 h2 h3 h4; simp [h0, h1, h2, h3, h4]
theorem c3 : Tryd.prog.cellsOf 3 = 1 := by kernel_rfl
theorem c9 : Tryd.prog.cellsOf 9 = 1 := by kernel_rfl
theorem c34 : Tryd.prog.cellsOf 34 = 5 := by kernel_rfl
section
variable {H : Type} {enc : TypeId × Value → H} {W : World}
/-- A telegram. -/
structure G5 where
  a : Int
  b : Int
  c : Int
  d : Int
  t : ByteArray
def G5.arr (g : G5) : Array Value := #[.int .i64 g.a, .int .i64 g.b, .int .i64 g.c, .int .i64 g.d, .string g.t]
def G5.ok (g : G5) : Prop := InR g.a ∧ InR g.b ∧ InR g.c ∧ InR g.d
theorem gram_cells {fuel : Nat} {cs : List Value} {x : DataW H × List MemPlace} {base : Nat} {spare : Nat → Bool} {held : Bool} (h : DataW.trod enc Tryd.prog W base spare held fuel 34 cs = some x) : ∃ g : G5, cs = g.arr.toList ∧ g.ok := by
  obtain ⟨xs, n, _, hx, hl, hlen, hg⟩ := DataW.trod_struct Tryd.underlying34 h
  have hlen' : xs.length = 5 := hlen
  have g0 : DataW.trod enc Tryd.prog W base spare held n 3 ((cs.drop 0).take (Tryd.prog.cellsOf 3)) = xs[0]? := hg 0 _ rfl
  have g1 : DataW.trod enc Tryd.prog W base spare held n 3 ((cs.drop 1).take (Tryd.prog.cellsOf 3)) = xs[1]? := hg 1 _ rfl
  have g2 : DataW.trod enc Tryd.prog W base spare held n 3 ((cs.drop 2).take (Tryd.prog.cellsOf 3)) = xs[2]? := hg 2 _ rfl
  have g3 : DataW.trod enc Tryd.prog W base spare held n 3 ((cs.drop 3).take (Tryd.prog.cellsOf 3)) = xs[3]? := hg 3 _ rfl
  have g4 : DataW.trod enc Tryd.prog W base spare held n 9 ((cs.drop 4).take (Tryd.prog.cellsOf 9)) = xs[4]? := hg 4 _ rfl
  rw [c3, List.getElem?_eq_getElem (by omega)] at g0 g1 g2 g3
  rw [c9, List.getElem?_eq_getElem (by omega)] at g4
  obtain ⟨a, e0, _, f0⟩ := DataW.trod_int Tryd.underlying3 g0
  obtain ⟨b, e1, _, f1⟩ := DataW.trod_int Tryd.underlying3 g1
  obtain ⟨c, e2, _, f2⟩ := DataW.trod_int Tryd.underlying3 g2
  obtain ⟨d, e3, _, f3⟩ := DataW.trod_int Tryd.underlying3 g3
  obtain ⟨t, e4, _, f4⟩ := DataW.trod_string Tryd.underlying9 g4
  exact ⟨⟨a, b, c, d, t⟩, five_of (hl.trans c34) e0 e1 e2 e3 e4, i64_of_wf f0, i64_of_wf f1, i64_of_wf f2, i64_of_wf f3⟩
/-- A slice of structs of five cells, as its elements' cells say. -/
def Reads5 {α : Type} (R : World → α → List Value → Prop) (w : World) (A : Option Addr) (l : List α) : Prop :=
  ∀ (i : Nat) (h : i < l.length), ∃ ad cs, A = some ad ∧ R w l[i] cs ∧ cs.length = 5 ∧ ∀ j, j < 5 → w.cell? (ad.add (i * 5 + j)) = cs[j]?
theorem Reads5.below {α : Type} {R : World → α → List Value → Prop} {w w' : World} {A : Option Addr} {l : List α} (h : Reads5 R w A l) (hR : ∀ x cs, R w x cs → R w' x cs) (hb : Below w.heap.size w w') : Reads5 R w' A l := by
  intro i hi
  obtain ⟨ad, cs, e, hr, hl, hc⟩ := h i hi
  refine ⟨ad, cs, e, hR _ _ hr, hl, fun j hj => ?_⟩
  have := hc j hj
  rw [List.getElem?_eq_getElem (by omega)] at this ⊢
  exact pw_cell_below hb this
theorem open_fives {α : Type} {R : World → α → List Value → Prop} {t e : TypeId} {fuel : Nat} {a : Option Addr} {len cap : Nat} {x : DataW H × List MemPlace} (ht : Tryd.prog.underlying t = some (.slice e)) (hC : Tryd.prog.cellsOf e = 5)
    (hR : ∀ (n : Nat) (cs : List Value) (y : DataW H × List MemPlace), DataW.trod enc Tryd.prog W 0 (fun _ => true) true n e cs = some y → ∃ g : α, R W g cs)
    (h : DataW.trod enc Tryd.prog W 0 (fun _ => true) true fuel t [.slice a len cap] = some x) : ∃ l : List α, len = l.length ∧ l.length ≤ cap ∧ cap ≤ maxLen ∧ Reads5 R W a l := by
  rcases Go.Deep.open_slice ht h with ⟨hcs, _⟩ | ⟨ad, len', cap', m, n, D, Pl, hcs, _, hl, hm, hmm, _, hi⟩
  · simp at hcs
    obtain ⟨rfl, rfl, rfl⟩ := hcs
    exact ⟨[], rfl, Nat.le_refl _, Nat.zero_le _, fun i hi => absurd hi (Nat.not_lt_zero _)⟩
  · simp at hcs
    obtain ⟨rfl, rfl, rfl⟩ := hcs
    have hmc : m = cap := hmm
    have key : ∀ k, k ≤ len → ∃ l : List α, l.length = k ∧ Reads5 R W (some ad) l := by
      intro k
      induction k with
      | zero => intro _; exact ⟨[], rfl, fun i hi => absurd hi (Nat.not_lt_zero _)⟩
      | succ k ih =>
        intro hk
        obtain ⟨l, e1, hr⟩ := ih (by omega)
        obtain ⟨cs', hc, htr⟩ := hi k (by omega)
        obtain ⟨g, hg⟩ := hR _ _ _ htr
        rw [hC] at hc
        obtain ⟨_, hcl, hat⟩ := World.cells?_some hc
        refine ⟨l ++ [g], by simp [e1], fun i hi' => ?_⟩
        rw [List.length_append, List.length_singleton] at hi'
        by_cases hik : i < l.length
        · obtain ⟨ad', cs, ea, hr', hl', hc'⟩ := hr i hik
          exact ⟨ad', cs, ea, by rw [List.getElem_append_left hik]; exact hr', hl', hc'⟩
        · obtain rfl : i = k := by omega
          refine ⟨ad, cs', rfl, ?_, hcl, fun j hj => ?_⟩
          · rw [List.getElem_append_right (by omega)]
            simpa [e1] using hg
          · rw [← Go.Deep.add_add]; exact hat j hj
    obtain ⟨l, e1, hr⟩ := key len (Nat.le_refl _)
    exact ⟨l, e1.symm, by omega, hm, hr⟩
def RG (w : World) (g : G5) (cs : List Value) : Prop := cs = g.arr.toList ∧ g.ok
set_option maxRecDepth 100000 in
theorem open_grams {a : Option Addr} {len cap : Nat} {d : DataW H} {p : List MemPlace} (h : DataW.Trod enc Tryd.prog W 0 (fun _ => true) true 39 (.slice a len cap) d p) : ∃ l : List G5, len = l.length ∧ l.length ≤ cap ∧ cap ≤ maxLen ∧ Reads5 RG W a l := by
  obtain ⟨fuel, hf⟩ := h
  exact open_fives (R := RG) Tryd.underlying39 c34 (fun n cs y hy => gram_cells hy) hf
/-! ### numbers and strings in a slice's cell -/
/-- A value of layer 2's laws. -/
structure V5 where
  k : Int
  n : Int
  s : ByteArray
  la : Option Addr
  lc : Nat
  l : List Int
  ta : Option Addr
  tc : Nat
  t : List ByteArray
def V5.arr (v : V5) : Array Value := #[.int .i64 v.k, .int .i64 v.n, .string v.s, .slice v.la v.l.length v.lc, .slice v.ta v.t.length v.tc]
structure V5.ok (w : World) (v : V5) : Prop where
  ik : InR v.k
  im : InR v.n
  cl : Kd.C (Kd.int .i64) w v.la v.l.length v.l
  il : ∀ x ∈ v.l, InR x
  ll : v.l.length ≤ v.lc
  ct : Kd.C Kd.string w v.ta v.t.length v.t
  lt : v.t.length ≤ v.tc
theorem V5.ok.below {w w' : World} {v : V5} (h : v.ok w) (hb : Below w.heap.size w w') : v.ok w' := ⟨h.ik, h.im, Kd.C_below h.cl hb, h.il, h.ll, Kd.C_below h.ct hb, h.lt⟩
end
/-! ### the limits of a telegram's numbers -/
theorem lows_laid : (Rows.laid_bourne_gram_lows : DataW Unit) = .agg (([0, 0, 0, -1099511627776] : List Int).map fun z => .lit (.int .i64 z)) := by kernel_rfl
theorem highs_laid : (Rows.laid_bourne_gram_highs : DataW Unit) = .agg (([127, 1099511627776, 1006633019, 1099511627776] : List Int).map fun z => .lit (.int .i64 z)) := by kernel_rfl
theorem limw_of_vars {W : World} {r : List (String × DataW Unit)} {ps : List MemPlace}
    (h : DataW.LaidVars Tryd.prog W (("bourne/gram.lows", Rows.laid_bourne_gram_lows) :: ("bourne/gram.highs", Rows.laid_bourne_gram_highs) :: r) ps) : Gm.LimW W := by
  obtain ⟨g0, t0, cs0, f0, p0, q0, hg0, ht0, hv0, hd0, ⟨g1, t1, cs1, f1, p1, q1, hg1, ht1, hv1, hd1, _, _⟩, _⟩ := h
  obtain rfl := Option.some.inj ((show Tryd.prog.globalNamed "bourne/gram.lows" = some 3 by kernel_rfl).symm.trans hg0)
  obtain rfl := Option.some.inj ((show Tryd.prog.globalNamed "bourne/gram.highs" = some 2 by kernel_rfl).symm.trans hg1)
  obtain rfl := Option.some.inj ((show (Tryd.prog.globals[3]?).map (·.type) = some 136 by kernel_rfl).symm.trans ht0)
  obtain rfl := Option.some.inj ((show (Tryd.prog.globals[2]?).map (·.type) = some 136 by kernel_rfl).symm.trans ht1)
  rw [lows_laid] at hd0
  rw [highs_laid] at hd1
  have c0 := arr_ints Tryd.underlying136 (e := 3) Tryd.underlying3 (by kernel_rfl) (by kernel_rfl) hd0
  have c1 := arr_ints Tryd.underlying136 (e := 3) Tryd.underlying3 (by kernel_rfl) (by kernel_rfl) hd1
  obtain ⟨u0, fr0, b0⟩ := cells_of_var hg0 hv0
  obtain ⟨u1, fr1, b1⟩ := cells_of_var hg1 hv1
  have e0 : cs0 = (([0, 0, 0, -1099511627776] : List Int).map (Value.int .i64)).toArray := by rw [← c0]
  have e1 : cs1 = (([127, 1099511627776, 1006633019, 1099511627776] : List Int).map (Value.int .i64)).toArray := by rw [← c1]
  rw [e0] at b0
  rw [e1] at b1
  exact ⟨⟨u1, fr1, b1⟩, ⟨u0, fr0, b0⟩⟩
theorem both_of_laid {W : World} {x : String × DataW Unit} {r : List (String × DataW Unit)} (hp : ((x :: ("bourne/digest.first", Rows.laid_bourne_digest_first) :: ("bourne/digest.orders", Rows.laid_bourne_digest_orders) :: ("bourne/gram.lows", Rows.laid_bourne_gram_lows) :: ("bourne/gram.highs", Rows.laid_bourne_gram_highs) :: r).all fun x => x.2.handleName?.isNone) = true)
    (h : laidMetH Tryd.prog (x :: ("bourne/digest.first", Rows.laid_bourne_digest_first) :: ("bourne/digest.orders", Rows.laid_bourne_digest_orders) :: ("bourne/gram.lows", Rows.laid_bourne_gram_lows) :: ("bourne/gram.highs", Rows.laid_bourne_gram_highs) :: r) W) : DigW W ∧ Gm.LimW W := by
  rw [MakeChecks.laidMetH_plain _ _ _ hp] at h
  obtain ⟨ps, hl, _⟩ := h
  obtain ⟨_, _, _, _, _, _, _, _, _, _, hr, _⟩ := hl
  refine ⟨digw_of_vars hr, ?_⟩
  obtain ⟨_, _, _, _, _, _, _, _, _, _, hr1, _⟩ := hr
  obtain ⟨_, _, _, _, _, _, _, _, _, _, hr2, _⟩ := hr1
  exact limw_of_vars hr2
end Go.Proofs.YtdgejkiackeieaaDoor
end
section
set_option linter.unusedVariables false
set_option linter.unusedSimpArgs false
/- Layer 24: when a telegram is well formed. -/
set_option linter.unusedVariables false
set_option linter.unusedSimpArgs false
namespace Go.Proofs.YtdgejkiackeieaaDoor.Gm
open Go.RowKit Go.Proofs.YtdgejkiackeieaaDoor Go.Proofs.YtdgejkiackeieaaDoor.Wr Go.Proofs.YtdgejkiackeieaaDoorW.PrintWords Go.Proofs.YtdgejkiackeieaaDoorW.PrintMore Go.Proofs.YtdgejkiackeieaaDoorW.PrintLast
attribute [local go_sem] max2_int min2_int
/-- A telegram that lies in a block of the call's own. -/
structure Gl (w0 w : World) (g : Nat) (a b c d : Int) (t : ByteArray) : Prop where
  blk : w.heap[g]? = some (.cells #[.int .i64 a, .int .i64 b, .int .i64 c, .int .i64 d, .string t] 34 (0, 0))
  below : Below w0.heap.size w0 w
  ge : w0.heap.size ≤ g
theorem Gl.lt {w0 w : World} {g : Nat} {a b c d : Int} {t : ByteArray} (h : Gl w0 w g a b c d t) : g < w.heap.size := blk_lt h.blk
theorem Gl.more {w0 w w' : World} {g : Nat} {a b c d : Int} {t : ByteArray} (h : Gl w0 w g a b c d t) (hb : Below w.heap.size w w') : Gl w0 w' g a b c d t :=
  ⟨(hb.block g h.lt).trans h.blk, h.below.trans (hb.mono h.below.size), h.ge⟩
/-- Within the limits. -/
def okN (a b c d : Int) : Prop := (0 ≤ a ∧ a ≤ 127) ∧ (0 ≤ b ∧ b ≤ 1099511627776) ∧ (0 ≤ c ∧ c ≤ 1006633019) ∧ (-1099511627776 ≤ d ∧ d ≤ 1099511627776)
instance (a b c d : Int) : Decidable (okN a b c d) := by unfold okN; infer_instance
def formedB (a b c d : Int) (t : ByteArray) : Bool := decide (okN a b c d) && decide (t.size = 8)
theorem int_eq (dd : Nat) (x y : Int) (w : World) : (Op.equalIn (dd + 1) 3 (.int .i64 x) (.int .i64 y)).run Tryd.prog w = .ok (decide (x = y)) w := by
  simp [Op.equalIn, run_underlying Tryd.underlying3]
  rfl
theorem cellsOf3 : Tryd.prog.cellsOf 3 = 1 := by kernel_rfl
theorem part3 (xs : Array Value) (j : Nat) (n : Int) (w : World) (h : xs[j]? = some (.int .i64 n)) : (part 3 xs j).run Tryd.prog w = .ok (.int .i64 n) w := by
  simp [part, h]
theorem info3' : ∃ i, Tryd.prog.info? 3 = some i := Option.isSome_iff_exists.1 (by kernel_rfl)
theorem clampI_eq (x lo hi : Int) (h : lo ≤ hi) : x = clampI x lo hi ↔ lo ≤ x ∧ x ≤ hi := by unfold clampI; omega
theorem eq_step (dd : Nat) (xs ys : Array Value) (j : Nat) (x y : Int) (is : List Nat) (w : World) (r : Bool) (hx : xs[j]? = some (.int .i64 x)) (hy : ys[j]? = some (.int .i64 y)) (hr : (Op.eqItems (dd + 1) 3 1 xs ys is).run Tryd.prog w = .ok r w) :
    (Op.eqItems (dd + 1) 3 1 xs ys (j :: is)).run Tryd.prog w = .ok (decide (x = y) && r) w := by
  rw [Op.eqItems]
  simp only [Sem.run_bind, Nat.mul_one, part3 xs j x w hx, part3 ys j y w hy, Result.andThen_ok, int_eq]
  by_cases h : x = y
  · simp [h, hr]
  · simp [h]
set_option maxRecDepth 100000 in
theorem eq_clamps (a b c d : Int) (w : World) (dd : Nat) (h : 2 ≤ dd) : (Op.equalIn dd 136 (.agg #[.int .i64 a, .int .i64 b, .int .i64 c, .int .i64 d]) (.agg (clamps 4 a b c d))).run Tryd.prog w = .ok (decide (okN a b c d)) w := by
  obtain ⟨dd, rfl⟩ : ∃ k, dd = k + 1 + 1 := ⟨dd - 2, by omega⟩
  obtain ⟨i, hi⟩ := info3'
  rw [run_equalIn_array w (dd + 1) _ _ Tryd.underlying136 hi, cellsOf3]
  have e := eq_step dd #[.int .i64 a, .int .i64 b, .int .i64 c, .int .i64 d] (clamps 4 a b c d) 0 a (clampI a 0 127) _ w _ rfl rfl (eq_step dd _ _ 1 b (clampI b 0 1099511627776) _ w _ rfl rfl (eq_step dd _ _ 2 c (clampI c 0 1006633019) _ w _ rfl rfl (eq_step dd _ _ 3 d (clampI d (-1099511627776) 1099511627776) [] w true rfl rfl (by simp [Op.eqItems]))))
  refine e.trans ?_
  congr 1
  rw [Bool.eq_iff_iff]
  simp only [Bool.and_eq_true, decide_eq_true_eq, and_true, okN, clampI_eq a 0 127 (by decide), clampI_eq b 0 1099511627776 (by decide), clampI_eq c 0 1006633019 (by decide), clampI_eq d (-1099511627776) 1099511627776 (by decide)]
  exact decide_eq_true_iff.symm
set_option maxHeartbeats 4000000 in
set_option maxRecDepth 100000 in
theorem formed_any (a b c d : Int) (t : ByteArray) (w : World) (hL : LimW w) (h4 : 4 ≤ w.heap.size) : Calls Tryd.prog 103 #[.agg #[.int .i64 a, .int .i64 b, .int .i64 c, .int .i64 d, .string t]] w fun e w' => e = .returned (.bool (formedB a b c d t)) ∧ Below w.heap.size w w' := by
  have HLM := Lib.hid hL
  clear hL
  go_enter Tryd.func103, Tryd.ntmps103
  go_wp2
  obtain ⟨W, hW⟩ : ∃ W, (w.alloc (Obj.cells #[Value.int .i64 a, Value.int .i64 b, Value.int .i64 c, Value.int .i64 d, Value.string t] 34)) = W := ⟨_, rfl⟩
  have G0 : Hid (Gl w W w.heap.size a b c d t) := Lib.hid (by rw [← hW]; exact ⟨heap_alloc_new w _, (Below.refl _ w).alloc (Nat.le_refl _) _, Nat.le_refl _⟩)
  rw [hW]
  clear hW
  refine start_ (n := 13) (S := fun w' => Gl w w' w.heap.size a b c d t) (ds := []) #[false, false, false, false, false, false, false, false, false, false, false, false, false] (by kernel_rfl) rfl rfl (G0.out.more (below_drew (Below.refl _ _))) (fun hHeld => ?_)
  refine take_ (i := 0) (N := some 3) (v := ?_) (a' := ?_) #[true, false, false, false, false, false, false, false, false, false, false, false, false] rfl rfl (by kernel_rfl) (fun _ _ _ h => h) (Or.inl ⟨by rfl, ?_⟩) hHeld ?_ ?_
  rotate_left
  · intro w' hL'
    have c0 := blk_cell hL'.blk 0
    have c1 := blk_cell hL'.blk 1
    have c2 := blk_cell hL'.blk 2
    have c3 := blk_cell hL'.blk 3
    have c4 := blk_cell hL'.blk 4
    go_simp
    with_reducible rfl
  rotate_left
  · simp only [Act.put, List.setIfInBounds_toArray, List.set_cons_zero, List.set_cons_succ, i64_w, i32_w]
    rfl
  refine take_ (i := 2) (N := some 5) (v := ?_) (a' := ?_) #[true, false, true, false, false, false, false, false, false, false, false, false, false] rfl rfl (by kernel_rfl) (fun _ _ _ h => h) (Or.inl ⟨by rfl, ?_⟩) hHeld ?_ ?_
  rotate_left
  · intro w' hL'
    have c0 := blk_cell hL'.blk 0
    have c1 := blk_cell hL'.blk 1
    have c2 := blk_cell hL'.blk 2
    have c3 := blk_cell hL'.blk 3
    have c4 := blk_cell hL'.blk 4
    go_simp
    with_reducible rfl
  rotate_left
  · simp only [Act.put, List.setIfInBounds_toArray, List.set_cons_zero, List.set_cons_succ, i64_w, i32_w]
    rfl
  refine one_ (i := 1) (N := some 4) #[true, true, true, false, false, false, false, false, false, false, false, false, false] rfl rfl (by kernel_rfl) (by decide) (fun K hK => ?_)
  refine goes_ Tryd.func131 (by kernel_rfl) rfl #[.agg #[.int .i64 a, .int .i64 b, .int .i64 c, .int .i64 d, .string t]] (by rfl) rfl rfl (by simp only [List.map_toArray, List.map_cons, List.map_nil]; rfl) ?_
  refine (of_any a b c d t _).mono ?_
  rintro e w' ⟨rfl, hb'⟩
  refine ⟨_, rfl, ?_⟩
  refine hK.out _ _ (hHeld.more hb') (fun hHeld => ?_)
  clear hK K
  refine norm_ (a' := ?_) ?_ ?_
  rotate_left
  · show Act.put _ (some 4) _ = _
    simp only [Act.put, List.setIfInBounds_toArray, List.set_cons_zero, List.set_cons_succ, i64_w, i32_w]
    rfl
  refine one_ (i := 3) (N := some 6) #[true, true, true, true, false, false, false, false, false, false, false, false, false] rfl rfl (by kernel_rfl) (by decide) (fun K hK => ?_)
  refine goes_ Tryd.func131 (by kernel_rfl) rfl #[.agg #[.int .i64 a, .int .i64 b, .int .i64 c, .int .i64 d, .string t]] (by rfl) rfl rfl (by simp only [List.map_toArray, List.map_cons, List.map_nil]; rfl) ?_
  refine (of_any a b c d t _).mono ?_
  rintro e w' ⟨rfl, hb'⟩
  refine ⟨_, rfl, ?_⟩
  refine hK.out _ _ (hHeld.more hb') (fun hHeld => ?_)
  clear hK K
  refine norm_ (a' := ?_) ?_ ?_
  rotate_left
  · show Act.put _ (some 6) _ = _
    simp only [Act.put, List.setIfInBounds_toArray, List.set_cons_zero, List.set_cons_succ, i64_w, i32_w]
    rfl
  refine one_ (i := 4) (N := some 7) #[true, true, true, true, true, false, false, false, false, false, false, false, false] rfl rfl (by kernel_rfl) (by decide) (fun K hK => ?_)
  refine goes_ Tryd.func135 (by kernel_rfl) rfl #[.agg #[.int .i64 a, .int .i64 b, .int .i64 c, .int .i64 d]] (by rfl) rfl rfl (by simp only [List.map_toArray, List.map_cons, List.map_nil]; rfl) ?_
  refine (clamp_any a b c d _ (HLM.out.below hHeld.below h4 h4) (Nat.le_trans h4 hHeld.below.size)).mono ?_
  rintro e w' ⟨rfl, hb'⟩
  refine ⟨_, rfl, ?_⟩
  refine hK.out _ _ (hHeld.more hb') (fun hHeld => ?_)
  clear hK K
  refine norm_ (a' := ?_) ?_ ?_
  rotate_left
  · show Act.put _ (some 7) _ = _
    simp only [Act.put, List.setIfInBounds_toArray, List.set_cons_zero, List.set_cons_succ, i64_w, i32_w]
    rfl
  refine pure_ (i := 5) (N := some 8) (v := ?_) (a' := ?_) #[true, true, true, true, true, true, false, false, false, false, false, false, false] rfl rfl (by kernel_rfl) (fun _ _ _ h => h) (Or.inl ⟨by rfl, ?_⟩) ?_ ?_
  rotate_left
  · intro w'
    go_simp
    rw [eq_clamps _ _ _ _ _ _ (by decide)]
    rfl
  rotate_left
  · simp only [Act.put, List.setIfInBounds_toArray, List.set_cons_zero, List.set_cons_succ, i64_w, i32_w]
    rfl
  by_cases hok : okN a b c d
  · have hd : decide (okN a b c d) = true := decide_eq_true hok
    rw [hd]
    have hf : formedB a b c d t = decide (t.size = 8) := by unfold formedB; rw [hd]; rfl
    have HF := Lib.hid hf; clear hf hd
    refine pure_ (i := 6) (N := some 9) (v := ?_) (a' := ?_) #[true, true, true, true, true, true, true, false, false, false, false, false, false] rfl rfl (by kernel_rfl) (fun _ _ _ h => h) (Or.inl ⟨by rfl, ?_⟩) ?_ ?_
    rotate_left
    · intro w'
      go_simp
      with_reducible rfl
    rotate_left
    · simp only [Act.put, List.setIfInBounds_toArray, List.set_cons_zero, List.set_cons_succ, i64_w, i32_w]
      rfl
    refine pure_ (i := 7) (N := some 10) (v := ?_) (a' := ?_) #[true, true, true, true, true, true, true, true, false, false, false, false, false] rfl rfl (by kernel_rfl) (fun _ _ _ h => h) (Or.inl ⟨by rfl, ?_⟩) ?_ ?_
    rotate_left
    · intro w'
      go_simp
      with_reducible rfl
    rotate_left
    · simp only [Act.put, List.setIfInBounds_toArray, List.set_cons_zero, List.set_cons_succ, i64_w, i32_w]
      rfl
    refine take_ (i := 8) (N := some 11) (v := ?_) (a' := ?_) #[true, true, true, true, true, true, true, true, true, false, false, false, false] rfl rfl (by kernel_rfl) (fun _ _ _ h => h) (Or.inl ⟨by rfl, ?_⟩) hHeld ?_ ?_
    rotate_left
    · intro w' hL'
      have c0 := blk_cell hL'.blk 0
      have c1 := blk_cell hL'.blk 1
      have c2 := blk_cell hL'.blk 2
      have c3 := blk_cell hL'.blk 3
      have c4 := blk_cell hL'.blk 4
      go_simp
      with_reducible rfl
    rotate_left
    · simp only [Act.put, List.setIfInBounds_toArray, List.set_cons_zero, List.set_cons_succ, i64_w, i32_w]
      rfl
    refine pure_ (i := 9) (N := some 12) (v := ?_) (a' := ?_) #[true, true, true, true, true, true, true, true, true, true, false, false, false] rfl rfl (by kernel_rfl) (fun _ _ _ h => h) (Or.inl ⟨by rfl, ?_⟩) ?_ ?_
    rotate_left
    · intro w'
      go_simp
      with_reducible rfl
    rotate_left
    · simp only [Act.put, List.setIfInBounds_toArray, List.set_cons_zero, List.set_cons_succ, i64_w, i32_w]
      rfl
    refine pure_ (i := 10) (N := some 13) (v := ?_) (a' := ?_) #[true, true, true, true, true, true, true, true, true, true, true, false, false] rfl rfl (by kernel_rfl) (fun _ _ _ h => h) (Or.inl ⟨by rfl, ?_⟩) ?_ ?_
    rotate_left
    · intro w'
      go_simp
      with_reducible rfl
    rotate_left
    · simp only [Act.put, List.setIfInBounds_toArray, List.set_cons_zero, List.set_cons_succ, i64_w, i32_w]
      rfl
    refine pure_ (i := 11) (N := some 14) (v := ?_) (a' := ?_) #[true, true, true, true, true, true, true, true, true, true, true, true, false] rfl rfl (by kernel_rfl) (fun _ _ _ h => h) (Or.inl ⟨by rfl, ?_⟩) ?_ ?_
    rotate_left
    · intro w'
      go_simp
      with_reducible rfl
    rotate_left
    · simp only [Act.put, List.setIfInBounds_toArray, List.set_cons_zero, List.set_cons_succ, i64_w, i32_w]
      rfl
    refine pure_ (i := 12) (N := some 2) (v := ?_) (a' := ?_) #[true, true, true, true, true, true, true, true, true, true, true, true, true] rfl rfl (by kernel_rfl) (fun _ _ _ h => h) (Or.inl ⟨by rfl, ?_⟩) ?_ ?_
    rotate_left
    · intro w'
      go_simp
      with_reducible rfl
    rotate_left
    · simp only [Act.put, List.setIfInBounds_toArray, List.set_cons_zero, List.set_cons_succ, i64_w, i32_w]
      rfl
    refine done_ (by kernel_rfl) ?_
    go_wp2
    go_ret
    rw [HF.out]
    exact ⟨congrArg (fun x => Ending.returned (Value.bool x)) (by rw [Bool.eq_iff_iff]; simp; omega), hHeld.below⟩
  · have hd : decide (okN a b c d) = false := decide_eq_false hok
    rw [hd]
    have hf : formedB a b c d t = false := by unfold formedB; rw [hd]; rfl
    have HF := Lib.hid hf; clear hf hd
    refine pure_ (i := 6) (N := some 9) (v := ?_) (a' := ?_) #[true, true, true, true, true, true, true, false, false, false, false, false, false] rfl rfl (by kernel_rfl) (fun _ _ _ h => h) (Or.inl ⟨by rfl, ?_⟩) ?_ ?_
    rotate_left
    · intro w'
      go_simp
      with_reducible rfl
    rotate_left
    · simp only [Act.put, List.setIfInBounds_toArray, List.set_cons_zero, List.set_cons_succ, i64_w, i32_w]
      rfl
    refine pure_ (i := 7) (N := some 10) (v := undef) (a' := ?_) #[true, true, true, true, true, true, true, true, false, false, false, false, false] rfl rfl (by kernel_rfl) (fun _ _ _ h => h) (Or.inr ⟨by rfl, rfl⟩) ?_ ?_
    rotate_left
    · simp only [Act.put, List.setIfInBounds_toArray, List.set_cons_zero, List.set_cons_succ, i64_w, i32_w]
      rfl
    refine pure_ (i := 8) (N := some 11) (v := undef) (a' := ?_) #[true, true, true, true, true, true, true, true, true, false, false, false, false] rfl rfl (by kernel_rfl) (fun _ _ _ h => h) (Or.inr ⟨by rfl, rfl⟩) ?_ ?_
    rotate_left
    · simp only [Act.put, List.setIfInBounds_toArray, List.set_cons_zero, List.set_cons_succ, i64_w, i32_w]
      rfl
    refine pure_ (i := 9) (N := some 12) (v := undef) (a' := ?_) #[true, true, true, true, true, true, true, true, true, true, false, false, false] rfl rfl (by kernel_rfl) (fun _ _ _ h => h) (Or.inr ⟨by rfl, rfl⟩) ?_ ?_
    rotate_left
    · simp only [Act.put, List.setIfInBounds_toArray, List.set_cons_zero, List.set_cons_succ, i64_w, i32_w]
      rfl
    refine pure_ (i := 10) (N := some 13) (v := undef) (a' := ?_) #[true, true, true, true, true, true, true, true, true, true, true, false, false] rfl rfl (by kernel_rfl) (fun _ _ _ h => h) (Or.inr ⟨by rfl, rfl⟩) ?_ ?_
    rotate_left
    · simp only [Act.put, List.setIfInBounds_toArray, List.set_cons_zero, List.set_cons_succ, i64_w, i32_w]
      rfl
    refine pure_ (i := 11) (N := some 14) (v := ?_) (a' := ?_) #[true, true, true, true, true, true, true, true, true, true, true, true, false] rfl rfl (by kernel_rfl) (fun _ _ _ h => h) (Or.inl ⟨by rfl, ?_⟩) ?_ ?_
    rotate_left
    · intro w'
      go_simp
      with_reducible rfl
    rotate_left
    · simp only [Act.put, List.setIfInBounds_toArray, List.set_cons_zero, List.set_cons_succ, i64_w, i32_w]
      rfl
    refine pure_ (i := 12) (N := some 2) (v := ?_) (a' := ?_) #[true, true, true, true, true, true, true, true, true, true, true, true, true] rfl rfl (by kernel_rfl) (fun _ _ _ h => h) (Or.inl ⟨by rfl, ?_⟩) ?_ ?_
    rotate_left
    · intro w'
      go_simp
      with_reducible rfl
    rotate_left
    · simp only [Act.put, List.setIfInBounds_toArray, List.set_cons_zero, List.set_cons_succ, i64_w, i32_w]
      rfl
    refine done_ (by kernel_rfl) ?_
    go_wp2
    go_ret
    rw [HF.out]
    exact ⟨rfl, hHeld.below⟩
end Go.Proofs.YtdgejkiackeieaaDoor.Gm
end
section
set_option linter.unusedVariables false
set_option linter.unusedSimpArgs false
/- Layer 24: the encoding of the numbers. -/
set_option linter.unusedVariables false
set_option linter.unusedSimpArgs false
namespace Go.Proofs.YtdgejkiackeieaaDoor.Gm
open Go.RowKit Go.Proofs.YtdgejkiackeieaaDoor Go.Proofs.YtdgejkiackeieaaDoor.Wr Go.Proofs.YtdgejkiackeieaaDoorW.PrintWords Go.Proofs.YtdgejkiackeieaaDoorW.PrintMore Go.Proofs.YtdgejkiackeieaaDoorW.PrintLast
def pre (k : Nat) (a b c d : Int) : List UInt8 := (if k < 1 then [] else intB a) ++ (if k < 2 then [] else intB b) ++ (if k < 3 then [] else intB c) ++ (if k < 4 then [] else intB d)
def coreB (a b c d : Int) : List UInt8 := intB a ++ intB b ++ intB c ++ intB d
theorem pre_len (k : Nat) (a b c d : Int) (ha : InR a) (hb : InR b) (hc : InR c) (hd : InR d) : (pre k a b c d).length ≤ 36 := by
  have h1 := intB_length _ ha; have h2 := intB_length _ hb; have h3 := intB_length _ hc; have h4 := intB_length _ hd
  unfold pre
  simp only [List.length_append]
  split <;> split <;> split <;> split <;> (try simp only [List.length_nil]) <;> omega
theorem byteCells_mk (l m : List UInt8) : Lib.byteCells l ++ Lib.strCells (mkB m) = Lib.byteCells (l ++ m) := by
  rw [Lib.byteCells_append]; rfl
set_option maxHeartbeats 8000000 in
set_option maxRecDepth 100000 in
theorem core_any (a b c d : Int) (t : ByteArray) (w : World) (ha : InR a) (hb : InR b) (hc : InR c) (hd : InR d) : Calls Tryd.prog 100 #[.agg #[.int .i64 a, .int .i64 b, .int .i64 c, .int .i64 d, .string t]] w fun e w' => e = .returned (.string (mkB (coreB a b c d))) ∧ Below w.heap.size w w' := by
  have HA := Lib.hid ha; have HB := Lib.hid hb; have HC := Lib.hid hc; have HD := Lib.hid hd
  clear ha hb hc hd
  have j0 : ∀ w : World, (Instr.index 136 (.agg #[.int .i64 a, .int .i64 b, .int .i64 c, .int .i64 d]) (.int .i64 0)).run Tryd.prog w = .ok (.int .i64 a) w := fun _ => by kernel_rfl
  have j1 : ∀ w : World, (Instr.index 136 (.agg #[.int .i64 a, .int .i64 b, .int .i64 c, .int .i64 d]) (.int .i64 1)).run Tryd.prog w = .ok (.int .i64 b) w := fun _ => by kernel_rfl
  have j2 : ∀ w : World, (Instr.index 136 (.agg #[.int .i64 a, .int .i64 b, .int .i64 c, .int .i64 d]) (.int .i64 2)).run Tryd.prog w = .ok (.int .i64 c) w := fun _ => by kernel_rfl
  have j3 : ∀ w : World, (Instr.index 136 (.agg #[.int .i64 a, .int .i64 b, .int .i64 c, .int .i64 d]) (.int .i64 3)).run Tryd.prog w = .ok (.int .i64 d) w := fun _ => by kernel_rfl
  go_enter Tryd.func100, Tryd.ntmps100
  go_wp2_with fail
  obtain ⟨W, hW⟩ : ∃ W, (w.alloc (Obj.cells #[Value.int .i64 a, Value.int .i64 b, Value.int .i64 c, Value.int .i64 d, Value.string t] 34)) = W := ⟨_, rfl⟩
  have hWs : W.heap.size = w.heap.size + 1 := by rw [← hW]; simp
  have BW : Hid (Below w.heap.size w W) := Lib.hid (by rw [← hW]; exact (Below.refl _ w).alloc (Nat.le_refl _) _)
  have FB := Lib.IsBuilderF.of (Lib.fresh_isBuilder 91 5 W)
  rw [hWs] at FB
  rw [hW]
  clear hW
  refine (of_any a b c d t _).mono ?_
  rintro e w1 ⟨rfl, b1⟩
  have FB1 := builder_kept' FB b1
  have BW1 : Hid (Below w.heap.size w w1) := Lib.hid ((BW.out.alloc BW.out.size _).trans (b1.mono (by rw [World.size_alloc]; omega)))
  clear FB b1
  go_wp2
  go_loopw [5, 8] (fun v5 v8 wr => ∃ k : Nat, k ≤ 4 ∧ v8 = .int .i64 k ∧ Hid (Lib.IsBuilderF 91 5 (w.heap.size + 1) (w.heap.size + 1) (Lib.byteCells (pre k a b c d)) wr) ∧ Hid (Below w.heap.size w wr)) (fun _ v8 _ => 4 - (intOf v8).toNat)
  case atStart => exact ⟨0, by omega, rfl, Lib.hid FB1, BW1⟩
  case round =>
    obtain ⟨k, hk, rfl, hfb, hbw⟩ := hrel
    by_cases h4 : k < 4
    · have hk' : k = 0 ∨ k = 1 ∨ k = 2 ∨ k = 3 := by omega
      have hp := pre_len k a b c d HA.out HB.out HC.out HD.out
      have HP := Lib.hid hp
      clear hp FB1
      rcases hk' with rfl | rfl | rfl | rfl
      · go_wp2_with fail
        refine (Int_any a _ HA.out).mono ?_
        rintro e w2 ⟨rfl, b2⟩
        have h2 := builder_kept' hfb.out b2
        have BW2 : Hid (Below w.heap.size w w2) := Lib.hid (hbw.out.trans (b2.mono hbw.out.size))
        have hz := intB_length _ HA.out
        have hsz2 : w.heap.size + 1 ≤ w2.heap.size := by
          rcases h2 with ⟨_, v, hb', _⟩ | ⟨_, v, hb', _⟩ <;> exact Nat.le_of_lt (Array.getElem?_eq_some_iff.1 hb').1
        clear b2
        go_wp2_with fail
        refine (writeString_any (w.heap.size + 1) (w.heap.size + 1) _ _ _ h2 (by have := HP.out; simp only [Lib.byteCells_length, mkB_size]; omega) hsz2).mono ?_
        rintro e w3 ⟨rfl, h3, b3, _⟩
        rw [byteCells_mk] at h3
        have H3 := Lib.hid h3; have BW3 : Hid (Below w.heap.size w w3) := Lib.hid (BW2.out.trans (b3.mono (Nat.le_succ _)))
        clear h3 b3 h2
        go_wp2
        go_roundw
        case rel => exact ⟨1, by omega, rfl, Lib.hid (Or.inr (by simpa [pre] using H3.out)), BW3⟩
        case measure => simp [intOf]
      · go_wp2_with fail
        refine (Int_any b _ HB.out).mono ?_
        rintro e w2 ⟨rfl, b2⟩
        have h2 := builder_kept' hfb.out b2
        have BW2 : Hid (Below w.heap.size w w2) := Lib.hid (hbw.out.trans (b2.mono hbw.out.size))
        have hz := intB_length _ HB.out
        have hsz2 : w.heap.size + 1 ≤ w2.heap.size := by
          rcases h2 with ⟨_, v, hb', _⟩ | ⟨_, v, hb', _⟩ <;> exact Nat.le_of_lt (Array.getElem?_eq_some_iff.1 hb').1
        clear b2
        go_wp2_with fail
        refine (writeString_any (w.heap.size + 1) (w.heap.size + 1) _ _ _ h2 (by have := HP.out; simp only [Lib.byteCells_length, mkB_size]; omega) hsz2).mono ?_
        rintro e w3 ⟨rfl, h3, b3, _⟩
        rw [byteCells_mk] at h3
        have H3 := Lib.hid h3; have BW3 : Hid (Below w.heap.size w w3) := Lib.hid (BW2.out.trans (b3.mono (Nat.le_succ _)))
        clear h3 b3 h2
        go_wp2
        go_roundw
        case rel => exact ⟨2, by omega, rfl, Lib.hid (Or.inr (by simpa [pre] using H3.out)), BW3⟩
        case measure => simp [intOf]
      · go_wp2_with fail
        refine (Int_any c _ HC.out).mono ?_
        rintro e w2 ⟨rfl, b2⟩
        have h2 := builder_kept' hfb.out b2
        have BW2 : Hid (Below w.heap.size w w2) := Lib.hid (hbw.out.trans (b2.mono hbw.out.size))
        have hz := intB_length _ HC.out
        have hsz2 : w.heap.size + 1 ≤ w2.heap.size := by
          rcases h2 with ⟨_, v, hb', _⟩ | ⟨_, v, hb', _⟩ <;> exact Nat.le_of_lt (Array.getElem?_eq_some_iff.1 hb').1
        clear b2
        go_wp2_with fail
        refine (writeString_any (w.heap.size + 1) (w.heap.size + 1) _ _ _ h2 (by have := HP.out; simp only [Lib.byteCells_length, mkB_size]; omega) hsz2).mono ?_
        rintro e w3 ⟨rfl, h3, b3, _⟩
        rw [byteCells_mk] at h3
        have H3 := Lib.hid h3; have BW3 : Hid (Below w.heap.size w w3) := Lib.hid (BW2.out.trans (b3.mono (Nat.le_succ _)))
        clear h3 b3 h2
        go_wp2
        go_roundw
        case rel => exact ⟨3, by omega, rfl, Lib.hid (Or.inr (by simpa [pre] using H3.out)), BW3⟩
        case measure => simp [intOf]
      · go_wp2_with fail
        refine (Int_any d _ HD.out).mono ?_
        rintro e w2 ⟨rfl, b2⟩
        have h2 := builder_kept' hfb.out b2
        have BW2 : Hid (Below w.heap.size w w2) := Lib.hid (hbw.out.trans (b2.mono hbw.out.size))
        have hz := intB_length _ HD.out
        have hsz2 : w.heap.size + 1 ≤ w2.heap.size := by
          rcases h2 with ⟨_, v, hb', _⟩ | ⟨_, v, hb', _⟩ <;> exact Nat.le_of_lt (Array.getElem?_eq_some_iff.1 hb').1
        clear b2
        go_wp2_with fail
        refine (writeString_any (w.heap.size + 1) (w.heap.size + 1) _ _ _ h2 (by have := HP.out; simp only [Lib.byteCells_length, mkB_size]; omega) hsz2).mono ?_
        rintro e w3 ⟨rfl, h3, b3, _⟩
        rw [byteCells_mk] at h3
        have H3 := Lib.hid h3; have BW3 : Hid (Below w.heap.size w w3) := Lib.hid (BW2.out.trans (b3.mono (Nat.le_succ _)))
        clear h3 b3 h2
        go_wp2
        go_roundw
        case rel => exact ⟨4, by omega, rfl, Lib.hid (Or.inr (by simpa [pre] using H3.out)), BW3⟩
        case measure => simp [intOf]
    · obtain rfl : k = 4 := by omega
      have hsz : w.heap.size + 1 ≤ wr.heap.size := by
        rcases hfb.out with ⟨_, v, hb', _⟩ | ⟨_, v, hb', _⟩ <;> exact Nat.le_of_lt (Array.getElem?_eq_some_iff.1 hb').1
      go_wp2_with fail
      refine (Tryd.Builder_String_any_k (w.heap.size + 1) (w.heap.size + 1) _ wr hfb.out hsz).mono ?_
      rintro e w2 ⟨rfl, _, b2, _⟩
      go_wp2
      go_ret
      exact ⟨ret_s' (by show mkB (pre 4 a b c d) = _; rfl), hbw.out.trans (b2.mono (by omega))⟩
end Go.Proofs.YtdgejkiackeieaaDoor.Gm
end
section
set_option linter.unusedVariables false
set_option linter.unusedSimpArgs false
-- printed by a program of this session's (xprint.py) out of the translation (one function, cut out); Lean checks it
namespace Go.Proofs.YtdgejkiackeieaaDoor.PSmall
open Go.RowKit Go.Proofs.YtdgejkiackeieaaDoorW.PrintWords Go.Proofs.YtdgejkiackeieaaDoorW.PrintLast Go.Proofs.YtdgejkiackeieaaDoorW.PrintMore
attribute [local go_sem] max2_int min2_int max_two min_two max_three min_three max_four min_four   -- for this text's walks alone
set_option linter.unusedVariables false
set_option linter.unusedSimpArgs false



def errW : Option Int → Value
 | none => .nilIface
 | some c => .iface 0 (.int .i64 c)
theorem errW_none : errW none = .nilIface := rfl
theorem errW_some (c : Int) : errW (some c) = .iface 0 (.int .i64 c) := rfl

-- the values' own types


/-! ### digest_Crc: function 29 -/
mutual
def digest_Crc.l0 : Nat → ByteArray → Int → Int → Int → Option (Int)
 | 0, _, _, _, _ => none
 | k + 1, x0, x3, x7, x8 => if x8 < x7 then (if 0 ≤ x8 then (if x8 < (x0.size : Int) then (digest_Crc.l1 k x0 (Go.bits .xor .u16 x3 (IntKind.u16.wrap (bt x0 x8))) x7 x8 0) else (none)) else (none)) else (some (wrap64 (Go.bits .xor .u16 IntKind.u16.max x3)))
def digest_Crc.l1 : Nat → ByteArray → Int → Int → Int → Int → Option (Int)
 | 0, _, _, _, _, _ => none
 | k + 1, x0, x3, x7, x8, x17 => if x17 < 8 then (if (Go.bits .and .u16 x3 1) = 1 then (digest_Crc.l1 k x0 (Go.bits .xor .u16 (x3 / 2) 33800) x7 x8 (wrap64 (x17 + 1))) else (digest_Crc.l1 k x0 (x3 / 2) x7 x8 (wrap64 (x17 + 1)))) else (digest_Crc.l0 k x0 x3 x7 (wrap64 (x8 + 1)))
end
def digest_Crc.f (k : Nat) (a0 : ByteArray) : Option (Int) := digest_Crc.l0 k a0 65535 (a0.size : Int) 0
set_option maxHeartbeats 8000000 in
set_option maxRecDepth 100000 in
theorem digest_Crc.calls (k : Nat) (a0 : ByteArray) (r : Int) (w : World) (h : digest_Crc.f k a0 = some r) :
  Calls Tryd.prog 29 #[.string a0] w fun e w' => e = .returned (.int .i64 r) ∧ Drawn0 w w' := by
 have H : (digest_Crc.l0 k a0 65535 (a0.size : Int) 0) = some r := h
 clear h
 have H' := Aside0.mk H
 clear H
 go_enter Tryd.func29, Tryd.ntmps29
 go_wp2
 go_loopg [3, 8] k (fun kq v3 v8 w' => ∃ (x3_1 : Int) (x8_1 : Int), v3 = .int .u16 x3_1 ∧ v8 = .int .i64 x8_1 ∧ Aside0 (digest_Crc.l0 kq a0 x3_1 (a0.size : Int) x8_1 = some r) ∧ Aside0 (kq ≤ k) ∧ Drawn0 w w')
 case atStart => exact ⟨(65535), (0), (by first | rfl | (simp; done) | (simp [*]; done)), (by first | rfl | (simp; done) | (simp [*]; done)), H', ⟨Nat.le_refl _⟩, by repeat (first | exact Drawn0.refl _ | apply Drawn0.step)⟩
 case round =>
  clear H'
  obtain ⟨x3_1, x8_1, rfl, rfl, HA, HK1, ⟨m1, rfl⟩⟩ := hrel
  cases gk with
  | zero => exact absurd HA.out (by simp [digest_Crc.l0])
  | succ k1 =>
   have H := HA.out
   clear HA
   simp only [digest_Crc.l0] at H
   by_cases c2 : x8_1 < (a0.size : Int)
   ·rw [if_pos c2] at H
    have c2b0 : decide (x8_1 < (a0.size : Int)) = true := decide_eq_true c2
    clear c2
    by_cases c3 : 0 ≤ x8_1
    ·rw [if_pos c3] at H
     have c3b0 : decide (0 ≤ x8_1) = true := decide_eq_true c3
     clear c3
     by_cases c4 : x8_1 < (a0.size : Int)
     ·rw [if_pos c4] at H
      have c4b0 : decide (x8_1 < (a0.size : Int)) = true := decide_eq_true c4
      clear c4
      have H' := Aside0.mk H
      clear H
      have p5 : 0 ≤ (x8_1 : Int) := of_decide_eq_true (by first | (with_reducible assumption) | assumption)
      have q5 : x8_1 < (a0.size : Int) := of_decide_eq_true (by first | (with_reducible assumption) | assumption)
      have hx5 := bt_at a0 x8_1
      replace p5 := eq_true p5
      replace q5 := eq_true q5
      go_wp2
      go_loopg [3, 17] k1 (fun kq v3 v17 w' => ∃ (x3_2 : Int) (x17_2 : Int), v3 = .int .u16 x3_2 ∧ v17 = .int .i64 x17_2 ∧ Aside0 (digest_Crc.l1 kq a0 x3_2 (a0.size : Int) x8_1 x17_2 = some r) ∧ Aside0 (kq ≤ k1) ∧ Drawn0 w w')
      case atStart => exact ⟨(Go.bits .xor .u16 x3_1 (IntKind.u16.wrap (bt a0 x8_1))), (0), (by first | rfl | (simp; done) | (simp [*]; done)), (by first | rfl | (simp; done) | (simp [*]; done)), H', ⟨Nat.le_refl _⟩, by repeat (first | exact Drawn0.refl _ | apply Drawn0.step)⟩
      case round =>
       clear H'
       try clear c2
       try clear c2b0
       try clear p2
       try clear c3
       try clear c3b0
       try clear c4
       try clear c4b0
       try clear p5
       try clear q5
       try clear hx5
       try clear p5
       try clear q5
       obtain ⟨x3_2, x17_2, rfl, rfl, HA, HK2, ⟨m2, rfl⟩⟩ := hrel
       cases gk with
       | zero => exact absurd HA.out (by simp [digest_Crc.l1])
       | succ k2 =>
        have H := HA.out
        clear HA
        simp only [digest_Crc.l1] at H
        by_cases c6 : x17_2 < 8
        ·rw [if_pos c6] at H
         have c6b0 : decide (x17_2 < 8) = true := decide_eq_true c6
         clear c6
         by_cases c7 : (Go.bits .and .u16 x3_2 1) = 1
         ·rw [if_pos c7] at H
          have c7b0 : ((Go.bits .and .u16 x3_2 1) == 1) = true := beq_iff_eq.mpr c7
          have c7b1 : ((Go.bits .and .u16 x3_2 1) != 1) = false := bne_eq_false_iff_eq.mpr c7
          clear c7
          have H' := Aside0.mk H
          clear H
          go_wp2
          go_roundg k2
          case measure => have := HK1.out; have := HK2.out; omega
          case rel => exact ⟨(Go.bits .xor .u16 (x3_2 / 2) 33800), (wrap64 (x17_2 + 1)), (by first | rfl | (simp; done) | (simp [*]; done)), (by first | rfl | (simp; done) | (simp [*]; done)), H', ⟨by have := HK1.out; have := HK2.out; omega⟩, by repeat (first | exact Drawn0.refl _ | apply Drawn0.step)⟩
         ·rw [if_neg c7] at H
          have c7b0 : ((Go.bits .and .u16 x3_2 1) == 1) = false := beq_eq_false_iff_ne.mpr c7
          have c7b1 : ((Go.bits .and .u16 x3_2 1) != 1) = true := bne_iff_ne.mpr c7
          have H' := Aside0.mk H
          clear H
          go_wp2
          go_roundg k2
          case measure => have := HK1.out; have := HK2.out; omega
          case rel => exact ⟨(x3_2 / 2), (wrap64 (x17_2 + 1)), (by first | rfl | (simp; done) | (simp [*]; done)), (by first | rfl | (simp; done) | (simp [*]; done)), H', ⟨by have := HK1.out; have := HK2.out; omega⟩, by repeat (first | exact Drawn0.refl _ | apply Drawn0.step)⟩
        ·rw [if_neg c6] at H
         have c6b0 : decide (x17_2 < 8) = false := decide_eq_false c6
         clear c6
         have H' := Aside0.mk H
         clear H
         go_wp2
         go_roundg k2
         case measure => have := HK1.out; have := HK2.out; omega
         case rel => exact ⟨(x3_2), (wrap64 (x8_1 + 1)), (by first | rfl | (simp; done) | (simp [*]; done)), (by first | rfl | (simp; done) | (simp [*]; done)), H', ⟨by have := HK1.out; have := HK2.out; omega⟩, by repeat (first | exact Drawn0.refl _ | apply Drawn0.step)⟩
     ·rw [if_neg c4] at H
      exact absurd H (by simp)
    ·rw [if_neg c3] at H
     exact absurd H (by simp)
   ·rw [if_neg c2] at H
    have c2b0 : decide (x8_1 < (a0.size : Int)) = false := decide_eq_false c2
    clear c2
    obtain rfl := Option.some.inj H
    go_wp2
    go_ret
    exact ⟨by first | rfl | (simp; done) | (simp [*]; done), by repeat (first | exact Drawn0.refl _ | apply Drawn0.step)⟩

-- NOT PRINTED: function 126 (digest_words)


end Go.Proofs.YtdgejkiackeieaaDoor.PSmall
end
section
set_option linter.unusedVariables false
set_option linter.unusedSimpArgs false
/- The Crc of package digest in plain numbers: its register's theory (bursts, exclusive or), and that the printed function computes it. -/
set_option linter.unusedVariables false
set_option linter.unusedSimpArgs false
namespace Go.Proofs.YtdgejkiackeieaaDoor
namespace Crc
/-- One step of the register, on naturals of any size. -/
def step (x : Nat) : Nat := if x % 2 = 1 then (x / 2) ^^^ 33800 else x / 2
def steps : Nat → Nat → Nat
  | 0, x => x
  | n + 1, x => steps n (step x)
theorem step_lt {x : Nat} (h : x < 65536) : step x < 65536 := by
  unfold step
  split
  · exact Nat.xor_lt_two_pow (n := 16) (by omega) (by decide)
  · omega
theorem steps_lt (n : Nat) {x : Nat} (h : x < 65536) : steps n x < 65536 := by
  induction n generalizing x with
  | zero => exact h
  | succ n ih => exact ih (step_lt h)
/-- The register behind a list of bytes. -/
def reg (x : Nat) (l : List Nat) : Nat := l.foldl (fun x c => steps 8 (x ^^^ c)) x
theorem reg_lt {x : Nat} (l : List Nat) (hx : x < 65536) (hl : ∀ c ∈ l, c < 256) : reg x l < 65536 := by
  induction l generalizing x with
  | nil => exact hx
  | cons c l ih =>
    refine ih (steps_lt 8 (Nat.xor_lt_two_pow (n := 16) hx ?_)) (fun d hd => hl d (List.mem_cons_of_mem _ hd))
    have := hl c (List.mem_cons_self ..); omega
end Crc

/-- The bytes of a string as numbers. -/
def nb (s : ByteArray) : List Nat := s.data.toList.map UInt8.toNat
theorem nb_length (s : ByteArray) : (nb s).length = s.size := by unfold nb; rw [List.length_map, Array.length_toList]; rfl
theorem nb_lt (s : ByteArray) : ∀ c ∈ nb s, c < 256 := by
  intro c hc
  simp only [nb, List.mem_map] at hc
  obtain ⟨b, _, rfl⟩ := hc
  exact b.toNat_lt
theorem nb_get (s : ByteArray) (i : Nat) (h : i < s.size) : Go.Proofs.YtdgejkiackeieaaDoorW.PrintWords.bt s i = (((nb s)[i]'(by rw [nb_length]; exact h) : Nat) : Int) := by
  unfold Go.Proofs.YtdgejkiackeieaaDoorW.PrintWords.bt
  rw [dif_pos (show ((i : Int)).toNat < s.size by omega)]
  simp only [nb, Int.toNat_natCast, List.getElem_map, Array.getElem_toList]
  rfl
/-- The checksum of a list of bytes. -/
def crcN (l : List Nat) : Nat := 65535 ^^^ Crc.reg 65535 l
theorem crcN_lt (l : List Nat) (h : ∀ c ∈ l, c < 256) : crcN l < 65536 := Nat.xor_lt_two_pow (n := 16) (by decide) (Crc.reg_lt l (by decide) h)
namespace CrcPrint
open Go.RowKit Go.Proofs.YtdgejkiackeieaaDoorW.PrintWords Go.Proofs.YtdgejkiackeieaaDoor.PSmall
theorem and_one (x : Nat) (h : x < 65536) : Go.bits .and .u16 (x : Int) 1 = ((x % 2 : Nat) : Int) := by
  have := u16_and_nat x 1 h (by decide)
  rw [nat_mask1] at this
  exact this
theorem wrap_u16_byte (c : Nat) (h : c < 256) : IntKind.u16.wrap (c : Int) = (c : Int) := by rw [IntKind.wrap_u16]; omega
theorem l1_eq (s : ByteArray) (i7 i8 : Int) (d : Nat) : ∀ (k x j : Nat), x < 65536 → j + d = 8 → PSmall.digest_Crc.l1 (k + d + 1) s x i7 i8 j = PSmall.digest_Crc.l0 k s (Crc.steps d x : Nat) i7 (wrap64 (i8 + 1)) := by
  induction d with
  | zero =>
    intro k x j hx hj
    rw [PSmall.digest_Crc.l1, if_neg (by omega)]
    rfl
  | succ d ih =>
    intro k x j hx hj
    rw [show k + (d + 1) + 1 = (k + d + 1) + 1 by omega, PSmall.digest_Crc.l1, if_pos (by omega), and_one x hx]
    have ew : wrap64 ((j : Int) + 1) = ((j + 1 : Nat) : Int) := by unfold wrap64; omega
    have hs : Crc.steps (d + 1) x = Crc.steps d (Crc.step x) := rfl
    have h2 : ((x : Int) / 2) = ((x / 2 : Nat) : Int) := by omega
    rw [hs, ew, h2]
    by_cases ho : x % 2 = 1
    · have e : Go.bits .xor .u16 ((x / 2 : Nat) : Int) 33800 = ((Crc.step x : Nat) : Int) := by
        have := u16_xor_nat (x / 2) 33800 (by omega) (by decide)
        rw [show ((33800 : Nat) : Int) = 33800 from rfl] at this
        rw [this, Crc.step, if_pos ho]
      rw [if_pos (by omega), e]
      exact ih k _ (j + 1) (Crc.step_lt hx) (by omega)
    · have e : x / 2 = Crc.step x := by rw [Crc.step, if_neg ho]
      rw [if_neg (by omega), e]
      exact ih k _ (j + 1) (Crc.step_lt hx) (by omega)
theorem l0_eq (s : ByteArray) (hs : s.size ≤ 1000000) (d : Nat) : ∀ (x i : Nat), x < 65536 → i + d = s.size → ∃ k, PSmall.digest_Crc.l0 k s x (s.size : Int) i = some ((65535 ^^^ Crc.reg x ((nb s).drop i) : Nat) : Int) := by
  induction d with
  | zero =>
    intro x i hx hi
    refine ⟨1, ?_⟩
    have e : (nb s).drop i = [] := by rw [List.drop_eq_nil_iff, nb_length]; omega
    have := u16_xor_nat 65535 x (by decide) hx
    have hl : (65535 ^^^ x) < 65536 := Nat.xor_lt_two_pow (n := 16) (by decide) hx
    rw [PSmall.digest_Crc.l0, if_neg (by omega), e, show IntKind.u16.max = ((65535 : Nat) : Int) from rfl, this]
    congr 1
    show wrap64 ((65535 ^^^ x : Nat) : Int) = ((65535 ^^^ x : Nat) : Int)
    unfold wrap64
    omega
  | succ d ih =>
    intro x i hx hi
    have hlt : i < s.size := by omega
    have hg : (nb s)[i]'(by rw [nb_length]; exact hlt) < 256 := nb_lt s _ (List.getElem_mem _)
    obtain ⟨k, hk⟩ := ih (Crc.steps 8 (x ^^^ (nb s)[i]'(by rw [nb_length]; exact hlt))) (i + 1) (Crc.steps_lt 8 (Nat.xor_lt_two_pow (n := 16) hx (by omega))) (by omega)
    refine ⟨(k + 8 + 1) + 1, ?_⟩
    rw [PSmall.digest_Crc.l0, if_pos (by omega), if_pos (by omega), if_pos (by omega), nb_get s i hlt, wrap_u16_byte _ hg, u16_xor_nat x _ hx (by omega)]
    have := l1_eq s (s.size : Int) (i : Int) 8 k (x ^^^ (nb s)[i]'(by rw [nb_length]; exact hlt)) 0 (Nat.xor_lt_two_pow (n := 16) hx (by omega)) rfl
    rw [show ((0 : Nat) : Int) = 0 from rfl] at this
    rw [this, show wrap64 ((i : Int) + 1) = ((i + 1 : Nat) : Int) by unfold wrap64; omega, hk]
    have ed : (nb s).drop i = (nb s)[i]'(by rw [nb_length]; exact hlt) :: (nb s).drop (i + 1) := List.drop_eq_getElem_cons (by rw [nb_length]; exact hlt)
    rw [ed]
    rfl
theorem f_eq (s : ByteArray) (hs : s.size ≤ 1000000) : ∃ k, PSmall.digest_Crc.f k s = some (crcN (nb s) : Int) := by
  obtain ⟨k, hk⟩ := l0_eq s hs s.size 65535 0 (by decide) (by omega)
  exact ⟨k, hk⟩
end CrcPrint
open Go.RowKit Go.Proofs.YtdgejkiackeieaaDoorW.PrintWords in
def digest_Crc.f (a0 : ByteArray) : Option Int := if a0.size ≤ 1000000 then some (crcN (nb a0) : Int) else none
open Go.RowKit Go.Proofs.YtdgejkiackeieaaDoorW.PrintWords in
theorem digest_Crc.calls (a0 : ByteArray) (r : Int) (w : World) (h : digest_Crc.f a0 = some r) :
    Calls Tryd.prog 29 #[.string a0] w fun e w' => e = .returned (.int .i64 r) ∧ Drawn0 w w' := by
  unfold digest_Crc.f at h
  split at h
  · obtain ⟨k, hk⟩ := CrcPrint.f_eq a0 ‹_›
    exact PSmall.digest_Crc.calls k a0 r w (hk.trans h)
  · cases h
end Go.Proofs.YtdgejkiackeieaaDoor
end
section
set_option linter.unusedVariables false
set_option linter.unusedSimpArgs false
-- printed by a program of this session's (xprint.py) out of the translation; Lean checks it
namespace Go.Proofs.YtdgejkiackeieaaDoor.PSmall
open Go.RowKit Go.Proofs.YtdgejkiackeieaaDoorW.PrintWords Go.Proofs.YtdgejkiackeieaaDoorW.PrintLast Go.Proofs.YtdgejkiackeieaaDoorW.PrintMore
attribute [local go_sem] max2_int min2_int max_two min_two max_three min_three max_four min_four   -- for this text's walks alone
set_option linter.unusedVariables false
set_option linter.unusedSimpArgs false

-- NOT PRINTED: function 140 (abi_NoEscape)

-- NOT PRINTED: function 124 (strings_Builder_copyCheck)

-- NOT PRINTED: function 92 (strings_Builder_WriteByte)

-- NOT PRINTED: function 93 (strings_Builder_String)

-- NOT PRINTED: function 141 (bytealg_IndexByteString)

-- NOT PRINTED: function 125 (stringslite_IndexByte)

-- NOT PRINTED: function 94 (strings_IndexByte)

/-! ### bits_RotateLeft32: function 142 -/
-- NOT PRINTED: function 127 (digest_mix)

-- NOT PRINTED: function 96 (digest_compress)

/-! ### bournelaw03_small: function 25 -/
end Go.Proofs.YtdgejkiackeieaaDoor.PSmall
end
section
set_option linter.unusedVariables false
set_option linter.unusedSimpArgs false
/- The contracts of digest.Crc and of the examples' function of layer 3 in the form that the printed callers take. -/
set_option linter.unusedVariables false
namespace Go.Proofs.YtdgejkiackeieaaDoor
open Go.RowKit Go.Proofs.YtdgejkiackeieaaDoorW.PrintWords
end Go.Proofs.YtdgejkiackeieaaDoor
end
section
set_option linter.unusedVariables false
set_option linter.unusedSimpArgs false
/- The contract of digest's Short: the first eight bytes of the digest as a number, its last four bits left out. -/
set_option linter.unusedVariables false
set_option linter.unusedSimpArgs false
namespace Go.Proofs.YtdgejkiackeieaaDoor
open Go.RowKit
theorem sumH_length (f : Nat) : ∀ (h : List Int) (s : ByteArray) (e : Nat), (sumH f h s e).length = h.length := by
  induction f with
  | zero => intro h s e; exact compressI_length _ _ _ _
  | succ f ih =>
    intro h s e
    rw [sumH]
    split
    · rw [ih]; exact compressI_length _ _ _ _
    · exact compressI_length _ _ _ _
theorem sumBytes_length (s : ByteArray) : (sumBytes s).length = 32 := by
  have : ∀ l : List Int, (l.flatMap wordBytes).length = 4 * l.length := by
    intro l
    induction l with
    | nil => rfl
    | cons x l ih => simp only [List.flatMap_cons, List.length_append, ih, List.length_cons, wordBytes, List.length_map, List.length_nil]; omega
  unfold sumBytes
  rw [this, sumH_length]
  rfl
/-- Bytes as a number, the greatest first. -/
def bigN (l : List UInt8) : Nat := l.foldl (fun n c => n * 256 + c.toNat) 0
theorem bigN_snoc (l : List UInt8) (c : UInt8) : bigN (l ++ [c]) = bigN l * 256 + c.toNat := by simp [bigN]
theorem bigN_lt (l : List UInt8) : bigN l < 256 ^ l.length := by
  have : ∀ (m : List UInt8) (n : Nat), m.foldl (fun n c => n * 256 + c.toNat) n < (n + 1) * 256 ^ m.length := by
    intro m
    induction m with
    | nil => intro n; simp
    | cons c m ih =>
      intro n
      have h := ih (n * 256 + c.toNat)
      have hc := c.toNat_lt
      have : (n * 256 + c.toNat + 1) * 256 ^ m.length ≤ (n + 1) * 256 * 256 ^ m.length := Nat.mul_le_mul_right _ (by omega)
      simp only [List.foldl_cons, List.length_cons]
      rw [Nat.pow_succ, Nat.mul_comm (256 ^ m.length) 256, ← Nat.mul_assoc]
      omega
  have h := this l 0
  simpa [bigN] using h
def shortN (s : ByteArray) : Nat := bigN ((sumBytes s).take 8) / 16
theorem or_byte (n : Nat) (c : Nat) (hn : n < 2 ^ 56) (hc : c < 256) : Go.bits .or .u64 ((n : Int) * 256) (c : Int) = ((n * 256 + c : Nat) : Int) := by
  have e := u64_or_nat (n * 256) c (by omega) (by omega)
  rw [nat_join 8 (n * 256) c (by omega) (by omega)] at e
  rw [← e]
  rfl
theorem or_byte' (n : Nat) (c : Nat) (hn : n < 2 ^ 56) (hc : c < 256) : Go.bits .or .u64 (IntKind.u64.wrap ((n : Int) * 256)) (IntKind.u64.wrap (c : Int)) = ((n * 256 + c : Nat) : Int) := by
  have e1 : IntKind.u64.wrap ((n : Int) * 256) = (n : Int) * 256 := by rw [wrap_u64]; omega
  have e2 : IntKind.u64.wrap (c : Int) = (c : Int) := by rw [wrap_u64]; omega
  rw [e1, e2, or_byte n c hn hc]
set_option maxHeartbeats 4000000 in
set_option maxRecDepth 100000 in
theorem short_any (s : ByteArray) (w : World) (hs : s.size ≤ 1000000) (hD : DigW w) :
    Calls Tryd.prog 33 #[.string s] w fun e w' => e = .returned (.int .i64 (shortN s : Int)) ∧ Below w.heap.size w w' := by
  have kc := fun (w : World) (s : ByteArray) => Lib.run_convert_string_bytes (P := Tryd.prog) w 9 30 5 s (u := .string) Tryd.underlying9 Tryd.underlying30 Tryd.underlying5
  have hS : ByteArray.size ⟨(sumBytes s).toArray⟩ = 32 := by show (sumBytes s).toArray.size = 32; rw [List.size_toArray, sumBytes_length]
  go_enter Tryd.func33, Tryd.ntmps33
  go_wp2_with (go_at_call 31; refine (sum_any s hs _ hD.ok hD.two).mono ?_; rintro e w1 ⟨rfl, hb⟩)
  obtain ⟨D, hD1⟩ : ∃ D : ByteArray, (ByteArray.extract ⟨(sumBytes s).toArray⟩ 0 8) = D := ⟨_, rfl⟩
  have hDl : D.data.toList = (sumBytes s).take 8 := by rw [← hD1, Lib.extract_data]; simp
  have hDs : D.size = 8 := by rw [← ByteArray.size_data, ← Array.length_toList, hDl, List.length_take, sumBytes_length]; rfl
  obtain ⟨C, hC⟩ : ∃ C : Nat, grownCap w1 8 0 5 = C := ⟨_, rfl⟩
  rw [hD1, hC]
  clear hD1 hC hD
  have hcell : ∀ j, j < 8 → (Lib.bytesWorld w1 5 D).cell? ⟨w1.heap.size, j, none⟩ = some (.int .u8 ((D.data.toList.getD j 0).toNat : Int)) := fun j hj => Lib.bytesWorld_cell w1 5 D j (by omega)
  have hbw : Below w.heap.size w (Lib.bytesWorld w1 5 D) := hb.trans ⟨rfl, rfl, rfl, by rw [Lib.bytesWorld_size]; have := hb.size; omega, fun i hi => Lib.bytesWorld_at_old w1 5 D i (by have := hb.size; omega)⟩
  obtain ⟨W, hW⟩ : ∃ W, Lib.bytesWorld w1 5 D = W := ⟨_, rfl⟩
  rw [hW] at hcell hbw ⊢
  have HDl := Lib.hid hDl
  have HDs := Lib.hid hDs
  clear hW kc hDl hDs hS hb
  have hcell' := Lib.hid hcell
  clear hcell
  go_loop [3, 11] (fun n i => ∃ k : Nat, k ≤ 8 ∧ i = .int .i64 k ∧ n = .int .u64 (bigN (D.data.toList.take k) : Int)) (fun _ i => 8 - (intOf i).toNat)
  case atStart => exact ⟨0, by omega, rfl, rfl⟩
  case round =>
    obtain ⟨k, hk, rfl, rfl⟩ := hrel
    by_cases hlt : k < 8
    · have hl : D.data.toList.length = 8 := by rw [Array.length_toList]; exact HDs.out
      have hg : D.data.toList.getD k 0 = D.data.toList[k]'(by omega) := by simp [List.getD_eq_getElem?_getD, List.getElem?_eq_getElem (show k < D.data.toList.length by omega)]
      have hcl := hcell'.out k hlt
      rw [hg] at hcl
      obtain ⟨c, hc⟩ : ∃ c : UInt8, D.data.toList[k]'(by omega) = c := ⟨_, rfl⟩
      have hT : bigN (D.data.toList.take (k + 1)) = bigN (D.data.toList.take k) * 256 + c.toNat := by
        rw [List.take_succ_eq_append_getElem (by omega), bigN_snoc, hc]
      rw [hc] at hcl
      have hb1 := bigN_lt (D.data.toList.take k)
      have hb2 : bigN (D.data.toList.take k) < 2 ^ 56 := by
        refine Nat.lt_of_lt_of_le hb1 ?_
        rw [show (2 : Nat) ^ 56 = 256 ^ 7 by decide]
        exact Nat.pow_le_pow_right (by decide) (by rw [List.length_take]; omega)
      obtain ⟨n, hn⟩ : ∃ n : Nat, bigN (D.data.toList.take k) = n := ⟨_, rfl⟩
      rw [hn] at hb2 hT ⊢
      obtain ⟨m, hm⟩ : ∃ m : Nat, c.toNat = m := ⟨_, rfl⟩
      have hm1 : m < 256 := by rw [← hm]; exact c.toNat_lt
      rw [hm] at hT hcl
      have HO := Lib.hid (or_byte' n m (by omega) (by omega))
      have HT := Lib.hid hT
      clear hT hn hc hg hl hb1 hb2 hm hm1
      go_wp2
      go_round
      case rel => exact ⟨k + 1, by omega, by go_num, by rw [HT.out, HO.out]⟩
      case measure => simp [intOf]; omega
    · obtain rfl : k = 8 := by omega
      have hb1 := bigN_lt (D.data.toList.take 8)
      have hb2 : bigN (D.data.toList.take 8) < 18446744073709551616 := by
        refine Nat.lt_of_lt_of_le hb1 ?_
        rw [show (18446744073709551616 : Nat) = 256 ^ 8 by decide]
        exact Nat.pow_le_pow_right (by decide) (by rw [List.length_take]; omega)
      have hT : bigN (D.data.toList.take 8) / 16 = shortN s := by unfold shortN; rw [HDl.out, List.take_take]; rfl
      obtain ⟨n, hn⟩ : ∃ n : Nat, bigN (D.data.toList.take 8) = n := ⟨_, rfl⟩
      rw [hn] at hb2 hT ⊢
      have n0 : 0 ≤ (n : Int) := by omega
      have HN := Lib.hid hb2
      have HT := Lib.hid hT
      have hv : Hid (wrap64 ((n : Int) / 16) = (shortN s : Int)) := Lib.hid (by rw [← hT]; unfold wrap64; omega)
      clear hT hn hb1 hb2
      go_wp2
      go_ret
      exact ⟨ret_int hv.out, hbw⟩
end Go.Proofs.YtdgejkiackeieaaDoor
end
section
set_option linter.unusedVariables false
set_option linter.unusedSimpArgs false
/- Layer 24: the seal. -/
set_option linter.unusedVariables false
set_option linter.unusedSimpArgs false
namespace Go.Proofs.YtdgejkiackeieaaDoor.Gm
open Go.RowKit Go.Proofs.YtdgejkiackeieaaDoor Go.Proofs.YtdgejkiackeieaaDoor.Wr Go.Proofs.YtdgejkiackeieaaDoorW.PrintWords Go.Proofs.YtdgejkiackeieaaDoorW.PrintMore Go.Proofs.YtdgejkiackeieaaDoorW.PrintLast
/-- What is digested. -/
def msgL (s : ByteArray) (a b c d : Int) : List UInt8 := textB [103, 114, 97, 109] ++ textB s.data.toList ++ coreB a b c d
def tagB (s : ByteArray) (a b c d : Int) : ByteArray := mkB ((sumBytes (mkB (msgL s a b c d))).take 8)
structure Gs (w0 w : World) (g : Nat) (a b c d : Int) (t : ByteArray) : Prop where
  one : Gl w0 w g a b c d t
  two : w.heap[g + 1]? = some (.cells #[.int .i64 0, .int .i64 0, .int .i64 0, .int .i64 0, .string ⟨#[]⟩] 34 (0, 0))
theorem Gs.more {w0 w w' : World} {g : Nat} {a b c d : Int} {t : ByteArray} (h : Gs w0 w g a b c d t) (hb : Below w.heap.size w w') : Gs w0 w' g a b c d t :=
  ⟨h.one.more hb, (hb.block (g + 1) (blk_lt h.two)).trans h.two⟩
set_option maxHeartbeats 4000000 in
set_option maxRecDepth 100000 in
theorem Seal_any (s : ByteArray) (a b c d : Int) (t : ByteArray) (w : World) (hs : s.size ≤ 1000) (ha : InR a) (hb : InR b) (hc : InR c) (hd : InR d) (hM : MaxW w) (hD : DigW w) : Calls Tryd.prog 39 #[.string s, .agg #[.int .i64 a, .int .i64 b, .int .i64 c, .int .i64 d, .string t]] w fun e w' => e = .returned (.agg #[.int .i64 a, .int .i64 b, .int .i64 c, .int .i64 d, .string (tagB s a b c d)]) ∧ Below w.heap.size w w' := by
  have hcl := pre_len 4 a b c d ha hb hc hd
  have hcl' : (coreB a b c d).length ≤ 36 := hcl
  have htl := (textB_length s.data.toList).2
  rw [len_size] at htl
  have hml : (msgL s a b c d).length ≤ 10000 := by
    unfold msgL
    rw [List.length_append, List.length_append]
    have : (textB [103, 114, 97, 109]).length = 6 := rfl
    omega
  have HM := Lib.hid hM; have HD := Lib.hid hD; have HA := Lib.hid ha; have HB := Lib.hid hb; have HC := Lib.hid hc; have HDD := Lib.hid hd
  have HML := Lib.hid hml
  obtain ⟨T1, hT1⟩ : ∃ T1, mkB (textB [103, 114, 97, 109]) = T1 := ⟨_, rfl⟩
  obtain ⟨T2, hT2⟩ : ∃ T2, mkB (textB s.data.toList) = T2 := ⟨_, rfl⟩
  obtain ⟨T3, hT3⟩ : ∃ T3, mkB (coreB a b c d) = T3 := ⟨_, rfl⟩
  have hsum : T1 ++ T2 ++ T3 = mkB (msgL s a b c d) := by rw [← hT1, ← hT2, ← hT3, mkB_append, mkB_append]; rfl
  have z1 : T1.size = 6 := by rw [← hT1]; rfl
  have z2 : T2.size ≤ 5000 := by rw [← hT2, mkB_size]; omega
  have z3 : T3.size ≤ 36 := by rw [← hT3, mkB_size]; exact hcl'
  have H1 := Lib.hid hT1; have H2 := Lib.hid hT2; have H3 := Lib.hid hT3; have HS := Lib.hid hsum
  clear hM hD ha hb hc hd hml hcl hcl' htl hT1 hT2 hT3 hsum
  obtain ⟨U, hU⟩ : ∃ U, (⟨(sumBytes (mkB (msgL s a b c d))).toArray⟩ : ByteArray) = U := ⟨_, rfl⟩
  have hUz : U.size = 32 := by rw [← hU]; show (sumBytes (mkB (msgL s a b c d))).toArray.size = 32; rw [List.size_toArray, sumBytes_length]
  have hUt : U.extract 0 8 = tagB s a b c d := by rw [← hU, extract_take]; rfl
  obtain ⟨TG, hTG⟩ : ∃ TG, tagB s a b c d = TG := ⟨_, rfl⟩
  rw [hTG] at hUt ⊢
  have HU := Lib.hid hU; have HUT := Lib.hid hUt
  clear hU hUt hTG
  go_enter Tryd.func39, Tryd.ntmps39
  go_wp2
  obtain ⟨W, hW⟩ : ∃ W, ((w.alloc (Obj.cells #[Value.int .i64 a, Value.int .i64 b, Value.int .i64 c, Value.int .i64 d, Value.string t] 34)).alloc (Obj.cells #[Value.int .i64 0, Value.int .i64 0, Value.int .i64 0, Value.int .i64 0, Value.string ⟨#[]⟩] 34)) = W := ⟨_, rfl⟩
  have G0 : Hid (Gs w W w.heap.size a b c d t) := Lib.hid (by
    rw [← hW]
    refine ⟨⟨?_, ((Below.refl _ w).alloc (Nat.le_refl _) _).alloc (by simp) _, Nat.le_refl _⟩, ?_⟩
    · exact (((Below.refl _ (w.alloc _)).alloc (Nat.le_refl _) _).block w.heap.size (by simp)).trans (heap_alloc_new w _)
    · simpa using heap_alloc_new (w.alloc _) _)
  rw [hW]
  clear hW
  refine start_ (n := 11) (S := fun w' => Gs w w' w.heap.size a b c d t) (ds := [10]) #[false, false, false, false, false, false, false, false, false, false, false] (by kernel_rfl) rfl rfl (G0.out.more (below_drew (Below.refl _ _))) (fun hHeld => ?_)
  refine pure_ (i := 1) (N := some 6) (v := ?_) (a' := ?_) #[false, true, false, false, false, false, false, false, false, false, false] rfl rfl (by kernel_rfl) (fun _ _ _ h => h) (Or.inl ⟨by rfl, ?_⟩) ?_ ?_
  rotate_left
  · intro w'
    go_simp
    with_reducible rfl
  rotate_left
  · simp only [Act.put, List.setIfInBounds_toArray, List.set_cons_zero, List.set_cons_succ, i64_w, i32_w]
    rfl
  refine take_ (i := 4) (N := some 9) (v := ?_) (a' := ?_) #[false, true, false, false, true, false, false, false, false, false, false] rfl rfl (by kernel_rfl) (fun _ _ _ h => h) (Or.inl ⟨by rfl, ?_⟩) hHeld ?_ ?_
  rotate_left
  · intro w' hL'
    have c0 := blk_cell hL'.one.blk 0
    have c1 := blk_cell hL'.one.blk 1
    have c2 := blk_cell hL'.one.blk 2
    have c3 := blk_cell hL'.one.blk 3
    have c4 := blk_cell hL'.one.blk 4
    go_simp
    with_reducible rfl
  rotate_left
  · simp only [Act.put, List.setIfInBounds_toArray, List.set_cons_zero, List.set_cons_succ, i64_w, i32_w]
    rfl
  refine one_ (i := 0) (N := some 5) #[true, true, false, false, true, false, false, false, false, false, false] rfl rfl (by kernel_rfl) (by decide) (fun K hK => ?_)
  refine goes_ Tryd.func40 (by kernel_rfl) rfl #[.string ⟨#[103, 114, 97, 109]⟩] (by rfl) rfl rfl (by simp only [List.map_toArray, List.map_cons, List.map_nil]; rfl) ?_
  refine (Text_any ⟨#[103, 114, 97, 109]⟩ _ (HM.out.below hHeld.one.below) (by decide)).mono ?_
  rw [show mkB (textB (⟨#[103, 114, 97, 109]⟩ : ByteArray).data.toList) = T1 from H1.out]
  rintro e w' ⟨rfl, hb'⟩
  refine ⟨_, rfl, ?_⟩
  refine hK.out _ _ (hHeld.more hb') (fun hHeld => ?_)
  clear hK K
  refine norm_ (a' := ?_) ?_ ?_
  rotate_left
  · show Act.put _ (some 5) _ = _
    simp only [Act.put, List.setIfInBounds_toArray, List.set_cons_zero, List.set_cons_succ, i64_w, i32_w]
    rfl
  refine one_ (i := 2) (N := some 7) #[true, true, true, false, true, false, false, false, false, false, false] rfl rfl (by kernel_rfl) (by decide) (fun K hK => ?_)
  refine goes_ Tryd.func40 (by kernel_rfl) rfl #[.string s] (by rfl) rfl rfl (by simp only [List.map_toArray, List.map_cons, List.map_nil]; rfl) ?_
  refine (Text_any s _ (HM.out.below hHeld.one.below) (by omega)).mono ?_
  rw [H2.out]
  rintro e w' ⟨rfl, hb'⟩
  refine ⟨_, rfl, ?_⟩
  refine hK.out _ _ (hHeld.more hb') (fun hHeld => ?_)
  clear hK K
  refine norm_ (a' := ?_) ?_ ?_
  rotate_left
  · show Act.put _ (some 7) _ = _
    simp only [Act.put, List.setIfInBounds_toArray, List.set_cons_zero, List.set_cons_succ, i64_w, i32_w]
    rfl
  refine pure_ (i := 3) (N := some 8) (v := ?_) (a' := ?_) #[true, true, true, true, true, false, false, false, false, false, false] rfl rfl (by kernel_rfl) (fun _ _ _ h => h) (Or.inl ⟨by rfl, ?_⟩) ?_ ?_
  rotate_left
  · intro w'
    go_simp
    rw [if_neg (by omega)]
  rotate_left
  · simp only [Act.put, List.setIfInBounds_toArray, List.set_cons_zero, List.set_cons_succ, i64_w, i32_w]
    rfl
  refine one_ (i := 5) (N := some 10) #[true, true, true, true, true, true, false, false, false, false, false] rfl rfl (by kernel_rfl) (by decide) (fun K hK => ?_)
  refine goes_ Tryd.func100 (by kernel_rfl) rfl #[.agg #[.int .i64 a, .int .i64 b, .int .i64 c, .int .i64 d, .string t]] (by rfl) rfl rfl (by simp only [List.map_toArray, List.map_cons, List.map_nil]; rfl) ?_
  refine (core_any a b c d t _ HA.out HB.out HC.out HDD.out).mono ?_
  rw [H3.out]
  rintro e w' ⟨rfl, hb'⟩
  refine ⟨_, rfl, ?_⟩
  refine hK.out _ _ (hHeld.more hb') (fun hHeld => ?_)
  clear hK K
  refine norm_ (a' := ?_) ?_ ?_
  rotate_left
  · show Act.put _ (some 10) _ = _
    simp only [Act.put, List.setIfInBounds_toArray, List.set_cons_zero, List.set_cons_succ, i64_w, i32_w]
    rfl
  refine pure_ (i := 6) (N := some 11) (v := ?_) (a' := ?_) #[true, true, true, true, true, true, true, false, false, false, false] rfl rfl (by kernel_rfl) (fun _ _ _ h => h) (Or.inl ⟨by rfl, ?_⟩) ?_ ?_
  rotate_left
  · intro w'
    go_simp
    rw [if_neg (by omega), HS.out]
  rotate_left
  · simp only [Act.put, List.setIfInBounds_toArray, List.set_cons_zero, List.set_cons_succ, i64_w, i32_w]
    rfl
  refine one_ (i := 7) (N := some 12) #[true, true, true, true, true, true, true, true, false, false, false] rfl rfl (by kernel_rfl) (by decide) (fun K hK => ?_)
  refine goes_ Tryd.func31 (by kernel_rfl) rfl #[.string (mkB (msgL s a b c d))] (by rfl) rfl rfl (by simp only [List.map_toArray, List.map_cons, List.map_nil]; rfl) ?_
  refine (sum_any (mkB (msgL s a b c d)) (by rw [mkB_size]; exact Nat.le_trans HML.out (by decide)) _ (HD.out.below hHeld.one.below).ok (HD.out.below hHeld.one.below).two).mono ?_
  rw [HU.out]
  rintro e w9 ⟨rfl, hb'⟩
  refine ⟨_, rfl, ?_⟩
  refine hK.out _ _ (hHeld.more hb') (fun hHeld => ?_)
  clear hK K
  refine norm_ (a' := ?_) ?_ ?_
  rotate_left
  · show Act.put _ (some 12) _ = _
    simp only [Act.put, List.setIfInBounds_toArray, List.set_cons_zero, List.set_cons_succ, i64_w, i32_w]
    rfl
  refine pure_ (i := 8) (N := some 13) (v := ?_) (a' := ?_) #[true, true, true, true, true, true, true, true, true, false, false] rfl rfl (by kernel_rfl) (fun _ _ _ h => h) (Or.inl ⟨by rfl, ?_⟩) ?_ ?_
  rotate_left
  · intro w'
    go_simp
    rw [HUT.out]
  rotate_left
  · simp only [Act.put, List.setIfInBounds_toArray, List.set_cons_zero, List.set_cons_succ, i64_w, i32_w]
    rfl
  refine pure_ (i := 9) (N := some 14) (v := ?_) (a' := ?_) #[true, true, true, true, true, true, true, true, true, true, false] rfl rfl (by kernel_rfl) (fun _ _ _ h => h) (Or.inl ⟨by rfl, ?_⟩) ?_ ?_
  rotate_left
  · intro w'
    go_simp
    with_reducible rfl
  rotate_left
  · simp only [Act.put, List.setIfInBounds_toArray, List.set_cons_zero, List.set_cons_succ, i64_w, i32_w]
    rfl
  have c4 := blk_cell hHeld.one.blk 4
  have f4 := blk_frozen hHeld.one.blk 4
  refine last_ (i := 10) (N := none) #[true, true, true, true, true, true, true, true, true, true, true] rfl rfl (by kernel_rfl) (by decide) (fun K hK => ?_)
  refine skip_ (w1 := ?_) (by rfl) rfl ?_ ?_
  rotate_left
  · go_simp
    rfl
  refine hK.out _ _ ?_
  clear hK K c4 f4
  refine done_ (by kernel_rfl) ?_
  have hA : (World.setCell w9 ⟨w.heap.size, 4, none⟩ (.string TG)).heap[w.heap.size]? = some (.cells #[.int .i64 a, .int .i64 b, .int .i64 c, .int .i64 d, .string TG] 34 (0, 0)) := blk_set hHeld.one.blk 4 _
  have hC := blk_far hHeld.two (p := ⟨w.heap.size, 4, none⟩) (by show w.heap.size + 1 ≠ w.heap.size; omega) (.string TG)
  have hBl : Below w.heap.size w (World.setCell w9 ⟨w.heap.size, 4, none⟩ (.string TG)) := below_set hHeld.one.below (Nat.le_refl _)
  obtain ⟨W1, hW1⟩ : ∃ W1, World.setCell w9 ⟨w.heap.size, 4, none⟩ (.string TG) = W1 := ⟨_, rfl⟩
  try rw [hW1]
  rw [hW1] at hA hC hBl
  clear hHeld hW1
  have hi : (Tryd.prog.info? 34).map (·.size) = some (#[Value.int .i64 a, .int .i64 b, .int .i64 c, .int .i64 d, .string TG] : Array Value).size := by
    rw [show (#[Value.int .i64 a, .int .i64 b, .int .i64 c, .int .i64 d, .string TG] : Array Value).size = 5 from rfl]; kernel_rfl
  have hz : (#[Value.int .i64 0, .int .i64 0, .int .i64 0, .int .i64 0, .string ⟨#[]⟩] : Array Value).size = (#[Value.int .i64 a, .int .i64 b, .int .i64 c, .int .i64 d, .string TG] : Array Value).size := rfl
  have ho : (#[Value.int .i64 a, .int .i64 b, .int .i64 c, .int .i64 d, .string TG] : Array Value).all (·.oneCell') = true := by simp [Value.oneCell']
  go_wp2_with (first | refine wpList_load_row rfl 34 _ rfl w.heap.size rfl 34 _ (0, 0) _ hA Tryd.underlying34 rfl hi ?_ | refine wpList_store_row rfl 34 _ _ rfl (w.heap.size + 1) _ rfl rfl 34 _ hC hi hz ho ?_)
  have hF := setRow_heap W1 (w.heap.size + 1) _ #[Value.int .i64 a, .int .i64 b, .int .i64 c, .int .i64 d, .string TG] 34 (0, 0) hC
  refine bodyPost_ret (results_cell_row rfl _ _ (w.heap.size + 1) 34 _ (0, 0) _ rfl hF Tryd.underlying34 rfl hi) rfl ?_
  exact ⟨rfl, below_setRow hBl (by omega) _⟩
end Go.Proofs.YtdgejkiackeieaaDoor.Gm
end
section
set_option linter.unusedVariables false
set_option linter.unusedSimpArgs false
/- Layer 24: Genuine and Bytes. -/
set_option linter.unusedVariables false
set_option linter.unusedSimpArgs false
namespace Go.Proofs.YtdgejkiackeieaaDoor.Gm
open Go.RowKit Go.Proofs.YtdgejkiackeieaaDoor Go.Proofs.YtdgejkiackeieaaDoor.Wr Go.Proofs.YtdgejkiackeieaaDoorW.PrintWords Go.Proofs.YtdgejkiackeieaaDoorW.PrintMore Go.Proofs.YtdgejkiackeieaaDoorW.PrintLast
theorem ite_val {c : Prop} [Decidable c] (b : Bool) (h : c ↔ b = true) (w : World) : (if c then Result.ok (Next.value (Value.bool true)) w else Result.ok (Next.value (Value.bool false)) w) = Result.ok (Next.value (Value.bool b)) w := by
  cases b
  · rw [if_neg (fun hc => by cases h.1 hc)]
  · rw [if_pos (h.2 rfl)]
theorem toList_iff (x y : ByteArray) : x.toList = y.toList ↔ decide (x = y) = true := by
  rw [decide_eq_true_iff]; exact ⟨fun h => ext_l h, fun h => by rw [h]⟩
def genuineB (s : ByteArray) (a b c d : Int) (t : ByteArray) : Bool := formedB a b c d t && decide (tagB s a b c d = t)
/-- A telegram's encoding: nothing for one that is not well formed. -/
def bytesL (a b c d : Int) (t : ByteArray) : List UInt8 := if formedB a b c d t then coreB a b c d ++ textB t.data.toList else []
theorem gl_new (w : World) (a b c d : Int) (t : ByteArray) : Gl w (w.alloc (Obj.cells #[Value.int .i64 a, Value.int .i64 b, Value.int .i64 c, Value.int .i64 d, Value.string t] 34)) w.heap.size a b c d t := ⟨heap_alloc_new w _, (Below.refl _ w).alloc (Nat.le_refl _) _, Nat.le_refl _⟩
set_option maxHeartbeats 4000000 in
set_option maxRecDepth 100000 in
theorem Genuine_any (s : ByteArray) (a b c d : Int) (t : ByteArray) (w : World) (hs : s.size ≤ 1000) (ha : InR a) (hb : InR b) (hc : InR c) (hd : InR d) (hM : MaxW w) (hD : DigW w) (hL : LimW w) (h4 : 4 ≤ w.heap.size) : Calls Tryd.prog 42 #[.string s, .agg #[.int .i64 a, .int .i64 b, .int .i64 c, .int .i64 d, .string t]] w fun e w' => e = .returned (.bool (genuineB s a b c d t)) ∧ Below w.heap.size w w' := by
  have HM := Lib.hid hM; have HD := Lib.hid hD; have HLM := Lib.hid hL; have HA := Lib.hid ha; have HB := Lib.hid hb; have HC := Lib.hid hc; have HDD := Lib.hid hd
  clear hM hD hL ha hb hc hd
  go_enter Tryd.func42, Tryd.ntmps42
  go_wp2
  obtain ⟨W, hW⟩ : ∃ W, (w.alloc (Obj.cells #[Value.int .i64 a, Value.int .i64 b, Value.int .i64 c, Value.int .i64 d, Value.string t] 34)) = W := ⟨_, rfl⟩
  have G0 : Hid (Gl w W w.heap.size a b c d t) := Lib.hid (by rw [← hW]; exact gl_new w a b c d t)
  rw [hW]
  clear hW
  cases hf : formedB a b c d t
  · have hg : genuineB s a b c d t = false := by unfold genuineB; rw [hf]; rfl
    have HF := Lib.hid hf; have HG := Lib.hid hg; clear hf hg
    refine start_ (n := 10) (S := fun w' => Gl w w' w.heap.size a b c d t) (ds := []) #[false, false, false, false, false, false, false, false, false, false] (by kernel_rfl) rfl rfl (G0.out.more (below_drew (Below.refl _ _))) (fun hHeld => ?_)
    refine take_ (i := 0) (N := some 5) (v := ?_) (a' := ?_) #[true, false, false, false, false, false, false, false, false, false] rfl rfl (by kernel_rfl) (fun _ _ _ h => h) (Or.inl ⟨by rfl, ?_⟩) hHeld ?_ ?_
    rotate_left
    · intro w' hL'
      have c0 := blk_cell hL'.blk 0
      have c1 := blk_cell hL'.blk 1
      have c2 := blk_cell hL'.blk 2
      have c3 := blk_cell hL'.blk 3
      have c4 := blk_cell hL'.blk 4
      go_simp
      with_reducible rfl
    rotate_left
    · simp only [Act.put, List.setIfInBounds_toArray, List.set_cons_zero, List.set_cons_succ, i64_w, i32_w]
      rfl
    refine one_ (i := 1) (N := some 6) #[true, true, false, false, false, false, false, false, false, false] rfl rfl (by kernel_rfl) (by decide) (fun K hK => ?_)
    refine goes_ Tryd.func103 (by kernel_rfl) rfl #[.agg #[.int .i64 a, .int .i64 b, .int .i64 c, .int .i64 d, .string t]] (by rfl) rfl rfl (by simp only [List.map_toArray, List.map_cons, List.map_nil]; rfl) ?_
    refine (formed_any a b c d t _ (HLM.out.below hHeld.below h4 h4) (Nat.le_trans h4 hHeld.below.size)).mono ?_
    rw [HF.out]
    rintro e w' ⟨rfl, hb'⟩
    refine ⟨_, rfl, ?_⟩
    refine hK.out _ _ (hHeld.more hb') (fun hHeld => ?_)
    clear hK K
    refine norm_ (a' := ?_) ?_ ?_
    rotate_left
    · show Act.put _ (some 6) _ = _
      simp only [Act.put, List.setIfInBounds_toArray, List.set_cons_zero, List.set_cons_succ, i64_w, i32_w]
      rfl
    refine pure_ (i := 2) (N := some 7) (v := ?_) (a' := ?_) #[true, true, true, false, false, false, false, false, false, false] rfl rfl (by kernel_rfl) (fun _ _ _ h => h) (Or.inl ⟨by rfl, ?_⟩) ?_ ?_
    rotate_left
    · intro w'
      go_simp
      with_reducible rfl
    rotate_left
    · simp only [Act.put, List.setIfInBounds_toArray, List.set_cons_zero, List.set_cons_succ, i64_w, i32_w]
      rfl
    refine pure_ (i := 3) (N := some 8) (v := undef) (a' := ?_) #[true, true, true, true, false, false, false, false, false, false] rfl rfl (by kernel_rfl) (fun _ _ _ h => h) (Or.inr ⟨by rfl, rfl⟩) ?_ ?_
    rotate_left
    · simp only [Act.put, List.setIfInBounds_toArray, List.set_cons_zero, List.set_cons_succ, i64_w, i32_w]
      rfl
    refine pure_ (i := 4) (N := some 9) (v := undef) (a' := ?_) #[true, true, true, true, true, false, false, false, false, false] rfl rfl (by kernel_rfl) (fun _ _ _ h => h) (Or.inr ⟨by rfl, rfl⟩) ?_ ?_
    rotate_left
    · simp only [Act.put, List.setIfInBounds_toArray, List.set_cons_zero, List.set_cons_succ, i64_w, i32_w]
      rfl
    refine pure_ (i := 5) (N := some 10) (v := undef) (a' := ?_) #[true, true, true, true, true, true, false, false, false, false] rfl rfl (by kernel_rfl) (fun _ _ _ h => h) (Or.inr ⟨by rfl, rfl⟩) ?_ ?_
    rotate_left
    · simp only [Act.put, List.setIfInBounds_toArray, List.set_cons_zero, List.set_cons_succ, i64_w, i32_w]
      rfl
    refine pure_ (i := 6) (N := some 11) (v := undef) (a' := ?_) #[true, true, true, true, true, true, true, false, false, false] rfl rfl (by kernel_rfl) (fun _ _ _ h => h) (Or.inr ⟨by rfl, rfl⟩) ?_ ?_
    rotate_left
    · simp only [Act.put, List.setIfInBounds_toArray, List.set_cons_zero, List.set_cons_succ, i64_w, i32_w]
      rfl
    refine pure_ (i := 7) (N := some 12) (v := undef) (a' := ?_) #[true, true, true, true, true, true, true, true, false, false] rfl rfl (by kernel_rfl) (fun _ _ _ h => h) (Or.inr ⟨by rfl, rfl⟩) ?_ ?_
    rotate_left
    · simp only [Act.put, List.setIfInBounds_toArray, List.set_cons_zero, List.set_cons_succ, i64_w, i32_w]
      rfl
    refine pure_ (i := 8) (N := some 13) (v := ?_) (a' := ?_) #[true, true, true, true, true, true, true, true, true, false] rfl rfl (by kernel_rfl) (fun _ _ _ h => h) (Or.inl ⟨by rfl, ?_⟩) ?_ ?_
    rotate_left
    · intro w'
      go_simp
      with_reducible rfl
    rotate_left
    · simp only [Act.put, List.setIfInBounds_toArray, List.set_cons_zero, List.set_cons_succ, i64_w, i32_w]
      rfl
    refine pure_ (i := 9) (N := some 4) (v := ?_) (a' := ?_) #[true, true, true, true, true, true, true, true, true, true] rfl rfl (by kernel_rfl) (fun _ _ _ h => h) (Or.inl ⟨by rfl, ?_⟩) ?_ ?_
    rotate_left
    · intro w'
      go_simp
      with_reducible rfl
    rotate_left
    · simp only [Act.put, List.setIfInBounds_toArray, List.set_cons_zero, List.set_cons_succ, i64_w, i32_w]
      rfl
    refine done_ (by kernel_rfl) ?_
    go_wp2
    go_ret
    rw [HG.out]
    exact ⟨rfl, hHeld.below⟩
  · have hg : genuineB s a b c d t = decide (tagB s a b c d = t) := by unfold genuineB; rw [hf]; rfl
    have HF := Lib.hid hf; have HG := Lib.hid hg; clear hf hg
    refine start_ (n := 10) (S := fun w' => Gl w w' w.heap.size a b c d t) (ds := []) #[false, false, false, false, false, false, false, false, false, false] (by kernel_rfl) rfl rfl (G0.out.more (below_drew (Below.refl _ _))) (fun hHeld => ?_)
    refine take_ (i := 0) (N := some 5) (v := ?_) (a' := ?_) #[true, false, false, false, false, false, false, false, false, false] rfl rfl (by kernel_rfl) (fun _ _ _ h => h) (Or.inl ⟨by rfl, ?_⟩) hHeld ?_ ?_
    rotate_left
    · intro w' hL'
      have c0 := blk_cell hL'.blk 0
      have c1 := blk_cell hL'.blk 1
      have c2 := blk_cell hL'.blk 2
      have c3 := blk_cell hL'.blk 3
      have c4 := blk_cell hL'.blk 4
      go_simp
      with_reducible rfl
    rotate_left
    · simp only [Act.put, List.setIfInBounds_toArray, List.set_cons_zero, List.set_cons_succ, i64_w, i32_w]
      rfl
    refine one_ (i := 1) (N := some 6) #[true, true, false, false, false, false, false, false, false, false] rfl rfl (by kernel_rfl) (by decide) (fun K hK => ?_)
    refine goes_ Tryd.func103 (by kernel_rfl) rfl #[.agg #[.int .i64 a, .int .i64 b, .int .i64 c, .int .i64 d, .string t]] (by rfl) rfl rfl (by simp only [List.map_toArray, List.map_cons, List.map_nil]; rfl) ?_
    refine (formed_any a b c d t _ (HLM.out.below hHeld.below h4 h4) (Nat.le_trans h4 hHeld.below.size)).mono ?_
    rw [HF.out]
    rintro e w' ⟨rfl, hb'⟩
    refine ⟨_, rfl, ?_⟩
    refine hK.out _ _ (hHeld.more hb') (fun hHeld => ?_)
    clear hK K
    refine norm_ (a' := ?_) ?_ ?_
    rotate_left
    · show Act.put _ (some 6) _ = _
      simp only [Act.put, List.setIfInBounds_toArray, List.set_cons_zero, List.set_cons_succ, i64_w, i32_w]
      rfl
    refine pure_ (i := 2) (N := some 7) (v := ?_) (a' := ?_) #[true, true, true, false, false, false, false, false, false, false] rfl rfl (by kernel_rfl) (fun _ _ _ h => h) (Or.inl ⟨by rfl, ?_⟩) ?_ ?_
    rotate_left
    · intro w'
      go_simp
      with_reducible rfl
    rotate_left
    · simp only [Act.put, List.setIfInBounds_toArray, List.set_cons_zero, List.set_cons_succ, i64_w, i32_w]
      rfl
    refine pure_ (i := 3) (N := some 8) (v := ?_) (a' := ?_) #[true, true, true, true, false, false, false, false, false, false] rfl rfl (by kernel_rfl) (fun _ _ _ h => h) (Or.inl ⟨by rfl, ?_⟩) ?_ ?_
    rotate_left
    · intro w'
      go_simp
      with_reducible rfl
    rotate_left
    · simp only [Act.put, List.setIfInBounds_toArray, List.set_cons_zero, List.set_cons_succ, i64_w, i32_w]
      rfl
    refine take_ (i := 4) (N := some 9) (v := ?_) (a' := ?_) #[true, true, true, true, true, false, false, false, false, false] rfl rfl (by kernel_rfl) (fun _ _ _ h => h) (Or.inl ⟨by rfl, ?_⟩) hHeld ?_ ?_
    rotate_left
    · intro w' hL'
      have c0 := blk_cell hL'.blk 0
      have c1 := blk_cell hL'.blk 1
      have c2 := blk_cell hL'.blk 2
      have c3 := blk_cell hL'.blk 3
      have c4 := blk_cell hL'.blk 4
      go_simp
      with_reducible rfl
    rotate_left
    · simp only [Act.put, List.setIfInBounds_toArray, List.set_cons_zero, List.set_cons_succ, i64_w, i32_w]
      rfl
    refine take_ (i := 6) (N := some 11) (v := ?_) (a' := ?_) #[true, true, true, true, true, false, true, false, false, false] rfl rfl (by kernel_rfl) (fun _ _ _ h => h) (Or.inl ⟨by rfl, ?_⟩) hHeld ?_ ?_
    rotate_left
    · intro w' hL'
      have c0 := blk_cell hL'.blk 0
      have c1 := blk_cell hL'.blk 1
      have c2 := blk_cell hL'.blk 2
      have c3 := blk_cell hL'.blk 3
      have c4 := blk_cell hL'.blk 4
      go_simp
      with_reducible rfl
    rotate_left
    · simp only [Act.put, List.setIfInBounds_toArray, List.set_cons_zero, List.set_cons_succ, i64_w, i32_w]
      rfl
    refine one_ (i := 5) (N := some 10) #[true, true, true, true, true, true, true, false, false, false] rfl rfl (by kernel_rfl) (by decide) (fun K hK => ?_)
    refine goes_ Tryd.func39 (by kernel_rfl) rfl #[.string s, .agg #[.int .i64 a, .int .i64 b, .int .i64 c, .int .i64 d, .string t]] (by rfl) rfl rfl (by simp only [List.map_toArray, List.map_cons, List.map_nil]; rfl) ?_
    refine (Seal_any s a b c d t _ hs HA.out HB.out HC.out HDD.out (HM.out.below hHeld.below) (HD.out.below hHeld.below)).mono ?_
    rintro e w' ⟨rfl, hb'⟩
    refine ⟨_, rfl, ?_⟩
    refine hK.out _ _ (hHeld.more hb') (fun hHeld => ?_)
    clear hK K
    refine norm_ (a' := ?_) ?_ ?_
    rotate_left
    · show Act.put _ (some 10) _ = _
      simp only [Act.put, List.setIfInBounds_toArray, List.set_cons_zero, List.set_cons_succ, i64_w, i32_w]
      rfl
    refine pure_ (i := 7) (N := some 12) (v := ?_) (a' := ?_) #[true, true, true, true, true, true, true, true, false, false] rfl rfl (by kernel_rfl) (fun _ _ _ h => h) (Or.inl ⟨by rfl, ?_⟩) ?_ ?_
    rotate_left
    · intro w'
      go_simp
      exact ite_val _ (toList_iff _ _) _
    rotate_left
    · simp only [Act.put, List.setIfInBounds_toArray, List.set_cons_zero, List.set_cons_succ, i64_w, i32_w]
      rfl
    refine pure_ (i := 8) (N := some 13) (v := ?_) (a' := ?_) #[true, true, true, true, true, true, true, true, true, false] rfl rfl (by kernel_rfl) (fun _ _ _ h => h) (Or.inl ⟨by rfl, ?_⟩) ?_ ?_
    rotate_left
    · intro w'
      go_simp
      with_reducible rfl
    rotate_left
    · simp only [Act.put, List.setIfInBounds_toArray, List.set_cons_zero, List.set_cons_succ, i64_w, i32_w]
      rfl
    refine pure_ (i := 9) (N := some 4) (v := ?_) (a' := ?_) #[true, true, true, true, true, true, true, true, true, true] rfl rfl (by kernel_rfl) (fun _ _ _ h => h) (Or.inl ⟨by rfl, ?_⟩) ?_ ?_
    rotate_left
    · intro w'
      go_simp
      with_reducible rfl
    rotate_left
    · simp only [Act.put, List.setIfInBounds_toArray, List.set_cons_zero, List.set_cons_succ, i64_w, i32_w]
      rfl
    refine done_ (by kernel_rfl) ?_
    go_wp2
    go_ret
    rw [HG.out]
    exact ⟨by simp, hHeld.below⟩
set_option maxHeartbeats 4000000 in
set_option maxRecDepth 100000 in
theorem Bytes_any (a b c d : Int) (t : ByteArray) (w : World) (ht : t.size ≤ 100000) (ha : InR a) (hb : InR b) (hc : InR c) (hd : InR d) (hM : MaxW w) (hL : LimW w) (h4 : 4 ≤ w.heap.size) : Calls Tryd.prog 43 #[.agg #[.int .i64 a, .int .i64 b, .int .i64 c, .int .i64 d, .string t]] w fun e w' => e = .returned (.string (mkB (bytesL a b c d t))) ∧ Below w.heap.size w w' := by
  have hcl : (coreB a b c d).length ≤ 36 := pre_len 4 a b c d ha hb hc hd
  have htl := (textB_length t.data.toList).2
  rw [len_size] at htl
  obtain ⟨T1, hT1⟩ : ∃ T1, mkB (coreB a b c d) = T1 := ⟨_, rfl⟩
  obtain ⟨T2, hT2⟩ : ∃ T2, mkB (textB t.data.toList) = T2 := ⟨_, rfl⟩
  have hsum : T1 ++ T2 = mkB (coreB a b c d ++ textB t.data.toList) := by rw [← hT1, ← hT2, mkB_append]
  have z1 : T1.size ≤ 36 := by rw [← hT1, mkB_size]; exact hcl
  have z2 : T2.size ≤ 1000000 := by rw [← hT2, mkB_size]; omega
  have H1 := Lib.hid hT1; have H2 := Lib.hid hT2; have HS := Lib.hid hsum
  have HM := Lib.hid hM; have HLM := Lib.hid hL; have HA := Lib.hid ha; have HB := Lib.hid hb; have HC := Lib.hid hc; have HDD := Lib.hid hd
  clear hM hL ha hb hc hd hT1 hT2 hsum hcl htl
  go_enter Tryd.func43, Tryd.ntmps43
  go_wp2_with fail
  obtain ⟨W, hW⟩ : ∃ W, (w.alloc (Obj.cells #[Value.int .i64 a, Value.int .i64 b, Value.int .i64 c, Value.int .i64 d, Value.string t] 34)) = W := ⟨_, rfl⟩
  have G0 : Hid (Gl w W w.heap.size a b c d t) := Lib.hid (by rw [← hW]; exact gl_new w a b c d t)
  rw [hW]
  clear hW
  refine (formed_any a b c d t _ (HLM.out.below G0.out.below h4 h4) (Nat.le_trans h4 G0.out.below.size)).mono ?_
  cases hf : formedB a b c d t
  · rintro e w1 ⟨rfl, b1⟩
    have hg : bytesL a b c d t = [] := by unfold bytesL; rw [hf]; rfl
    have HG := Lib.hid hg
    clear hf hg
    have G1 := Lib.hid (G0.out.more b1)
    clear b1
    go_wp2
    go_ret
    rw [HG.out]
    exact ⟨rfl, G1.out.below⟩
  · rintro e w1 ⟨rfl, b1⟩
    have hg : bytesL a b c d t = coreB a b c d ++ textB t.data.toList := by unfold bytesL; rw [hf]; rfl
    have HG := Lib.hid hg
    clear hf hg
    have G1 := Lib.hid (G0.out.more b1)
    clear b1
    go_wp2
    refine start_ (n := 7) (S := fun w' => Gl w w' w.heap.size a b c d t) (ds := []) #[false, false, false, false, false, false, false] (by kernel_rfl) rfl rfl (G1.out.more (below_drew (Below.refl _ _))) (fun hHeld => ?_)
    refine take_ (i := 0) (N := some 6) (v := ?_) (a' := ?_) #[true, false, false, false, false, false, false] rfl rfl (by kernel_rfl) (fun _ _ _ h => h) (Or.inl ⟨by rfl, ?_⟩) hHeld ?_ ?_
    rotate_left
    · intro w' hL'
      have c0 := blk_cell hL'.blk 0
      have c1 := blk_cell hL'.blk 1
      have c2 := blk_cell hL'.blk 2
      have c3 := blk_cell hL'.blk 3
      have c4 := blk_cell hL'.blk 4
      go_simp
      with_reducible rfl
    rotate_left
    · simp only [Act.put, List.setIfInBounds_toArray, List.set_cons_zero, List.set_cons_succ, i64_w, i32_w]
      rfl
    refine pure_ (i := 2) (N := some 8) (v := ?_) (a' := ?_) #[true, false, true, false, false, false, false] rfl rfl (by kernel_rfl) (fun _ _ _ h => h) (Or.inl ⟨by rfl, ?_⟩) ?_ ?_
    rotate_left
    · intro w'
      go_simp
      with_reducible rfl
    rotate_left
    · simp only [Act.put, List.setIfInBounds_toArray, List.set_cons_zero, List.set_cons_succ, i64_w, i32_w]
      rfl
    refine take_ (i := 3) (N := some 9) (v := ?_) (a' := ?_) #[true, false, true, true, false, false, false] rfl rfl (by kernel_rfl) (fun _ _ _ h => h) (Or.inl ⟨by rfl, ?_⟩) hHeld ?_ ?_
    rotate_left
    · intro w' hL'
      have c4 := blk_cell hL'.blk 4
      go_simp
      with_reducible rfl
    rotate_left
    · simp only [Act.put, List.setIfInBounds_toArray, List.set_cons_zero, List.set_cons_succ, i64_w, i32_w]
      rfl
    refine one_ (i := 1) (N := some 7) #[true, true, true, true, false, false, false] rfl rfl (by kernel_rfl) (by decide) (fun K hK => ?_)
    refine goes_ Tryd.func100 (by kernel_rfl) rfl #[.agg #[.int .i64 a, .int .i64 b, .int .i64 c, .int .i64 d, .string t]] (by rfl) rfl rfl (by simp only [List.map_toArray, List.map_cons, List.map_nil]; rfl) ?_
    refine (core_any a b c d t _ HA.out HB.out HC.out HDD.out).mono ?_
    rw [H1.out]
    rintro e w' ⟨rfl, hb'⟩
    refine ⟨_, rfl, ?_⟩
    refine hK.out _ _ (hHeld.more hb') (fun hHeld => ?_)
    clear hK K
    refine norm_ (a' := ?_) ?_ ?_
    rotate_left
    · show Act.put _ (some 7) _ = _
      simp only [Act.put, List.setIfInBounds_toArray, List.set_cons_zero, List.set_cons_succ, i64_w, i32_w]
      rfl
    refine one_ (i := 4) (N := some 10) #[true, true, true, true, true, false, false] rfl rfl (by kernel_rfl) (by decide) (fun K hK => ?_)
    refine goes_ Tryd.func40 (by kernel_rfl) rfl #[.string t] (by rfl) rfl rfl (by simp only [List.map_toArray, List.map_cons, List.map_nil]; rfl) ?_
    refine (Text_any t _ (HM.out.below hHeld.below) (by omega)).mono ?_
    rw [H2.out]
    rintro e w' ⟨rfl, hb'⟩
    refine ⟨_, rfl, ?_⟩
    refine hK.out _ _ (hHeld.more hb') (fun hHeld => ?_)
    clear hK K
    refine norm_ (a' := ?_) ?_ ?_
    rotate_left
    · show Act.put _ (some 10) _ = _
      simp only [Act.put, List.setIfInBounds_toArray, List.set_cons_zero, List.set_cons_succ, i64_w, i32_w]
      rfl
    refine pure_ (i := 5) (N := some 11) (v := ?_) (a' := ?_) #[true, true, true, true, true, true, false] rfl rfl (by kernel_rfl) (fun _ _ _ h => h) (Or.inl ⟨by rfl, ?_⟩) ?_ ?_
    rotate_left
    · intro w'
      go_simp
      rw [if_neg (by omega)]
    rotate_left
    · simp only [Act.put, List.setIfInBounds_toArray, List.set_cons_zero, List.set_cons_succ, i64_w, i32_w]
      rfl
    refine pure_ (i := 6) (N := some 2) (v := ?_) (a' := ?_) #[true, true, true, true, true, true, true] rfl rfl (by kernel_rfl) (fun _ _ _ h => h) (Or.inl ⟨by rfl, ?_⟩) ?_ ?_
    rotate_left
    · intro w'
      go_simp
      with_reducible rfl
    rotate_left
    · simp only [Act.put, List.setIfInBounds_toArray, List.set_cons_zero, List.set_cons_succ, i64_w, i32_w]
      rfl
    refine done_ (by kernel_rfl) ?_
    go_wp2
    go_ret
    rw [HG.out, ← HS.out]
    exact ⟨rfl, hHeld.below⟩
end Go.Proofs.YtdgejkiackeieaaDoor.Gm
end
section
set_option linter.unusedVariables false
set_option linter.unusedSimpArgs false
/- Layer 24: Read. -/
set_option linter.unusedVariables false
set_option linter.unusedSimpArgs false
namespace Go.Proofs.YtdgejkiackeieaaDoor.Gm
open Go.RowKit Go.Proofs.YtdgejkiackeieaaDoor Go.Proofs.YtdgejkiackeieaaDoor.Wr Go.Proofs.YtdgejkiackeieaaDoorW.PrintWords Go.Proofs.YtdgejkiackeieaaDoorW.PrintMore Go.Proofs.YtdgejkiackeieaaDoorW.PrintLast
theorem results_ct {P : Program} {fn : Func} {p q : Tmp} {ty : TypeId} (h : fn.results = #[.cell p ty, .tmp q]) (tmps : Array Value) (w : World) (g : Nat) (t : TypeId) (cs : Array Value) (fr : Nat × Nat) (d : TypeDesc)
    (hp : tmps.getD p undef = .pointer (some ⟨g, 0, none⟩)) (hg : w.heap[g]? = some (.cells cs t fr))
    (hu : P.underlying ty = some d) (hd : (match d with | .struct _ | .array _ _ => true | _ => false) = true) (hi : (P.info? ty).map (·.size) = some cs.size) :
    (results fn tmps).run P w = .ok (.tuple #[.agg cs, tmps.getD q undef]) w := by
  have hp' : tmps[p]?.getD undef = .pointer (some ⟨g, 0, none⟩) := by simpa using hp
  simp [results, h, hp', asAddr, run_loadVar_row w g t ty cs fr d hg hu hd hi]
/-- Reading a telegram. -/
structure Rd where
  a : Int
  b : Int
  c : Int
  d : Int
  t : ByteArray
  q : ByteArray
  bad : Bool
def rd5 (l : List UInt8) : Rd :=
  let r1 := rdr (intR l) 0 false
  let r2 := rdr (intR r1.2.1.data.toList) 0 r1.2.2
  let r3 := rdr (intR r2.2.1.data.toList) 0 r2.2.2
  let r4 := rdr (intR r3.2.1.data.toList) 0 r3.2.2
  let r5 := rdrS (textR r4.2.1.data.toList) r4.2.2
  ⟨r1.1, r2.1, r3.1, r4.1, r5.1, r5.2.1, r5.2.2⟩
def Rd.done (r : Rd) : Bool := !r.bad && (r.q.toList == ([] : List UInt8))
def Rd.ok (r : Rd) : Bool := r.done && formedB r.a r.b r.c r.d r.t
def Rd.v (r : Rd) : Value := if r.ok then .agg #[.int .i64 r.a, .int .i64 r.b, .int .i64 r.c, .int .i64 r.d, .string r.t] else .agg #[.int .i64 0, .int .i64 0, .int .i64 0, .int .i64 0, .string ⟨#[]⟩]
theorem rdr_sz (q : ByteArray) (b : Bool) (h : q.size ≤ 100000) : (rdr (intR q.data.toList) (0 : Int) b).2.1.size ≤ 100000 := by
  have := rdr_le q.data.toList b
  rw [len_size, len_size] at this; omega
set_option maxHeartbeats 4000000 in
set_option maxRecDepth 100000 in
theorem Read_any (s : ByteArray) (w : World) (hs : s.size ≤ 100000) (hL : LimW w) (h4 : 4 ≤ w.heap.size) : Calls Tryd.prog 46 #[.string s] w fun e w' => e = .returned (.tuple #[(rd5 s.data.toList).v, .bool (rd5 s.data.toList).ok]) ∧ Below w.heap.size w w' := by
  obtain ⟨a, q1, b1, e1⟩ : ∃ a q b, rdr (intR s.data.toList) 0 false = (a, q, b) := ⟨_, _, _, rfl⟩
  have s1 : q1.size ≤ 100000 := by have := rdr_sz s false hs; rw [e1] at this; exact this
  obtain ⟨b, q2, b2, e2⟩ : ∃ a q b, rdr (intR q1.data.toList) 0 b1 = (a, q, b) := ⟨_, _, _, rfl⟩
  have s2 : q2.size ≤ 100000 := by have := rdr_sz q1 b1 s1; rw [e2] at this; exact this
  obtain ⟨c, q3, b3, e3⟩ : ∃ a q b, rdr (intR q2.data.toList) 0 b2 = (a, q, b) := ⟨_, _, _, rfl⟩
  have s3 : q3.size ≤ 100000 := by have := rdr_sz q2 b2 s2; rw [e3] at this; exact this
  obtain ⟨d, q4, b4, e4⟩ : ∃ a q b, rdr (intR q3.data.toList) 0 b3 = (a, q, b) := ⟨_, _, _, rfl⟩
  have s4 : q4.size ≤ 100000 := by have := rdr_sz q3 b3 s3; rw [e4] at this; exact this
  obtain ⟨t, q5, b5, e5⟩ : ∃ a q b, rdrS (textR q4.data.toList) b4 = (a, q, b) := ⟨_, _, _, rfl⟩
  have e : rd5 s.data.toList = ⟨a, b, c, d, t, q5, b5⟩ := by simp only [rd5, e1, e2, e3, e4, e5]
  rw [e]
  have E1 := Lib.hid e1; have E2 := Lib.hid e2; have E3 := Lib.hid e3; have E4 := Lib.hid e4; have E5 := Lib.hid e5; have HLM := Lib.hid hL
  clear e e1 e2 e3 e4 e5 hL
  have hi : ∀ x0 x1 x2 x3 x4, (Tryd.prog.info? 34).map (·.size) = some (#[x0, x1, x2, x3, x4] : Array Value).size := fun x0 x1 x2 x3 x4 => by
    rw [show (#[x0, x1, x2, x3, x4] : Array Value).size = 5 from rfl]; kernel_rfl
  go_enter Tryd.func46, Tryd.ntmps46
  go_wp2_with fail
  obtain ⟨W, hW⟩ : ∃ W, (w.alloc (Obj.cells #[Value.int .i64 0, Value.int .i64 0, Value.int .i64 0, Value.int .i64 0, Value.string ⟨#[]⟩] 34)) = W := ⟨_, rfl⟩
  have G0 : Hid (Gl w W w.heap.size 0 0 0 0 ⟨#[]⟩) := Lib.hid (by rw [← hW]; exact gl_new w 0 0 0 0 ⟨#[]⟩)
  rw [hW]
  clear hW
  refine (ROpen_any s w W G0.out.below).mono ?_
  rintro e w1 ⟨rfl, i1, bb1, k1⟩
  have I1 := Lib.hid i1; have B1 := Lib.hid bb1; have G1 := Lib.hid (G0.out.more k1)
  have hne : w.heap.size ≠ W.heap.size := by have := G0.out.lt; omega
  obtain ⟨g, hg⟩ : ∃ g, W.heap.size = g := ⟨_, rfl⟩
  rw [hg] at I1 hne
  rw [hg]
  clear i1 bb1 k1 hg
  have HNE := Lib.hid hne
  clear hne
  go_wp2_with fail
  refine (RInt_any g s false w _ I1.out B1.out (by omega)).mono ?_
  rw [E1.out]
  rintro e w2 ⟨rfl, h⟩
  have L2 := Lib.hid h; clear h
  go_wp2_with fail
  refine (RInt_any g q1 b1 w _ L2.out.is L2.out.below (by omega)).mono ?_
  rw [E2.out]
  rintro e w3 ⟨rfl, h⟩
  have L3 := Lib.hid (L2.out.trans h); clear h
  go_wp2_with fail
  refine (RInt_any g q2 b2 w _ L3.out.is L3.out.below (by omega)).mono ?_
  rw [E3.out]
  rintro e w4 ⟨rfl, h⟩
  have L4 := Lib.hid (L3.out.trans h); clear h
  go_wp2_with fail
  refine (RInt_any g q3 b3 w _ L4.out.is L4.out.below (by omega)).mono ?_
  rw [E4.out]
  rintro e w5 ⟨rfl, h⟩
  have L5 := Lib.hid (L4.out.trans h); clear h
  go_wp2_with fail
  refine (RText_any g q4 b4 w _ L5.out.is L5.out.below (by omega)).mono ?_
  rw [E5.out]
  rintro e w6 ⟨rfl, h⟩
  have L6 := Lib.hid (L5.out.trans h); clear h
  have G6 : Hid (w6.heap[w.heap.size]? = some (.cells #[.int .i64 0, .int .i64 0, .int .i64 0, .int .i64 0, .string ⟨#[]⟩] 34 (0, 0))) := Lib.hid ((L6.out.keep.2 w.heap.size G1.out.lt HNE.out (by simp)).trans G1.out.blk)
  go_wp2_with fail
  obtain ⟨W7, hW7⟩ : ∃ W7, (w6.alloc (Obj.cells #[Value.int .i64 a, Value.int .i64 b, Value.int .i64 c, Value.int .i64 d, Value.string t] 34)) = W7 := ⟨_, rfl⟩
  obtain ⟨g6, hg6⟩ : ∃ g6, w6.heap.size = g6 := ⟨_, rfl⟩
  have hN7 : W7.heap[g6]? = some (.cells #[Value.int .i64 a, Value.int .i64 b, Value.int .i64 c, Value.int .i64 d, Value.string t] 34 (0, 0)) := by rw [← hW7, ← hg6]; exact heap_alloc_new w6 _
  have hB7 : Below w6.heap.size w6 W7 := by rw [← hW7]; exact (Below.refl _ w6).alloc (Nat.le_refl _) _
  have hZ7 := (hB7.block w.heap.size (blk_lt G6.out)).trans G6.out
  have L7 := Lib.hid (L6.out.more _ (Or.inl (Nat.le_refl _)) hB7)
  have hne6 : w.heap.size ≠ g6 := by have := blk_lt G6.out; omega
  rw [hW7, hg6]
  have N7 := Lib.hid hN7; have Z7 := Lib.hid hZ7
  clear hW7 hg6 hN7 hB7 hZ7
  refine (RDone_any g q5 b5 w W7 L7.out.is L7.out.below).mono ?_
  have ho : (#[Value.int .i64 a, Value.int .i64 b, Value.int .i64 c, Value.int .i64 d, Value.string t] : Array Value).all (·.oneCell') = true := by simp [Value.oneCell']
  have hoz : (#[Value.int .i64 0, Value.int .i64 0, Value.int .i64 0, Value.int .i64 0, Value.string ⟨#[]⟩] : Array Value).all (·.oneCell') = true := by simp [Value.oneCell']
  have hsz : (#[Value.int .i64 0, Value.int .i64 0, Value.int .i64 0, Value.int .i64 0, Value.string ⟨#[]⟩] : Array Value).size = (#[Value.int .i64 a, Value.int .i64 b, Value.int .i64 c, Value.int .i64 d, Value.string t] : Array Value).size := rfl
  have hsz' : (#[Value.int .i64 0, Value.int .i64 0, Value.int .i64 0, Value.int .i64 0, Value.string ⟨#[]⟩] : Array Value).size = (#[Value.int .i64 0, Value.int .i64 0, Value.int .i64 0, Value.int .i64 0, Value.string ⟨#[]⟩] : Array Value).size := rfl
  have hiZ : (Tryd.prog.info? 34).map (·.size) = some (#[Value.int .i64 0, Value.int .i64 0, Value.int .i64 0, Value.int .i64 0, Value.string ⟨#[]⟩] : Array Value).size := hi _ _ _ _ _
  have hiV : (Tryd.prog.info? 34).map (·.size) = some (#[Value.int .i64 a, Value.int .i64 b, Value.int .i64 c, Value.int .i64 d, Value.string t] : Array Value).size := hi _ _ _ _ _
  cases hdn : (!b5 && (q5.toList == ([] : List UInt8)))
  · rintro e w7 ⟨rfl, rfl⟩
    have hk : (⟨a, b, c, d, t, q5, b5⟩ : Rd).ok = false := by unfold Rd.ok Rd.done; rw [hdn]; rfl
    have hv : (⟨a, b, c, d, t, q5, b5⟩ : Rd).v = .agg #[Value.int .i64 0, Value.int .i64 0, Value.int .i64 0, Value.int .i64 0, Value.string ⟨#[]⟩] := by unfold Rd.v; rw [hk]; rfl
    have HK := Lib.hid hk; have HV := Lib.hid hv
    have hZ := Z7.out
    clear hdn hk hv
    have hB8 := L7.out.below
    have c0 := blk_cell hZ 0; have c1 := blk_cell hZ 1; have c2 := blk_cell hZ 2; have c3 := blk_cell hZ 3; have c4 := blk_cell hZ 4
    have f0 := blk_frozen hZ 0; have f1 := blk_frozen hZ 1; have f2 := blk_frozen hZ 2; have f3 := blk_frozen hZ 3; have f4 := blk_frozen hZ 4
    go_wp2
    have hF := blk_set (blk_set (blk_set (blk_set (blk_set hZ 0 (.int .i64 0)) 1 (.int .i64 0)) 2 (.int .i64 0)) 3 (.int .i64 0)) 4 (.string ⟨#[]⟩)
    refine bodyPost_ret (results_ct rfl _ _ w.heap.size 34 #[Value.int .i64 0, Value.int .i64 0, Value.int .i64 0, Value.int .i64 0, Value.string ⟨#[]⟩] (0, 0) _ rfl hF Tryd.underlying34 rfl hiZ) rfl ?_
    exact ⟨by rw [HV.out, HK.out]; rfl, below_set (below_set (below_set (below_set (below_set hB8 (Nat.le_refl _)) (Nat.le_refl _)) (Nat.le_refl _)) (Nat.le_refl _)) (Nat.le_refl _)⟩
  · rintro e w7 ⟨rfl, rfl⟩
    have hA := N7.out
    have HDN := Lib.hid hdn
    clear hdn
    have c0 := blk_cell hA 0; have c1 := blk_cell hA 1; have c2 := blk_cell hA 2; have c3 := blk_cell hA 3; have c4 := blk_cell hA 4
    go_wp2_with fail
    refine (formed_any a b c d t _ (HLM.out.below L7.out.below h4 h4) (Nat.le_trans h4 L7.out.below.size)).mono ?_
    clear c0 c1 c2 c3 c4
    cases hf : formedB a b c d t
    · rintro e w8 ⟨rfl, b8⟩
      have hk : (⟨a, b, c, d, t, q5, b5⟩ : Rd).ok = false := by unfold Rd.ok Rd.done; rw [HDN.out]; exact hf
      have hv : (⟨a, b, c, d, t, q5, b5⟩ : Rd).v = .agg #[Value.int .i64 0, Value.int .i64 0, Value.int .i64 0, Value.int .i64 0, Value.string ⟨#[]⟩] := by unfold Rd.v; rw [hk]; rfl
      have HK := Lib.hid hk; have HV := Lib.hid hv
      have hZ := (b8.block w.heap.size (blk_lt Z7.out)).trans Z7.out
      have hB8 := Lib.hid (L7.out.below.trans (b8.mono L7.out.below.size))
      clear hf hk hv b8 hA
      have c0 := blk_cell hZ 0; have c1 := blk_cell hZ 1; have c2 := blk_cell hZ 2; have c3 := blk_cell hZ 3; have c4 := blk_cell hZ 4
      have f0 := blk_frozen hZ 0; have f1 := blk_frozen hZ 1; have f2 := blk_frozen hZ 2; have f3 := blk_frozen hZ 3; have f4 := blk_frozen hZ 4
      go_wp2
      have hF := blk_set (blk_set (blk_set (blk_set (blk_set hZ 0 (.int .i64 0)) 1 (.int .i64 0)) 2 (.int .i64 0)) 3 (.int .i64 0)) 4 (.string ⟨#[]⟩)
      refine bodyPost_ret (results_ct rfl _ _ w.heap.size 34 #[Value.int .i64 0, Value.int .i64 0, Value.int .i64 0, Value.int .i64 0, Value.string ⟨#[]⟩] (0, 0) _ rfl hF Tryd.underlying34 rfl hiZ) rfl ?_
      exact ⟨by rw [HV.out, HK.out]; rfl, below_set (below_set (below_set (below_set (below_set hB8.out (Nat.le_refl _)) (Nat.le_refl _)) (Nat.le_refl _)) (Nat.le_refl _)) (Nat.le_refl _)⟩
    · rintro e w8 ⟨rfl, b8⟩
      have hk : (⟨a, b, c, d, t, q5, b5⟩ : Rd).ok = true := by unfold Rd.ok Rd.done; rw [HDN.out]; exact hf
      have hv : (⟨a, b, c, d, t, q5, b5⟩ : Rd).v = .agg #[Value.int .i64 a, Value.int .i64 b, Value.int .i64 c, Value.int .i64 d, Value.string t] := by unfold Rd.v; rw [hk]; rfl
      have HK := Lib.hid hk; have HV := Lib.hid hv
      have hZ := (b8.block w.heap.size (blk_lt Z7.out)).trans Z7.out
      have hA8 := (b8.block g6 (blk_lt hA)).trans hA
      have hB8 := Lib.hid (L7.out.below.trans (b8.mono L7.out.below.size))
      clear hf hk hv b8 hA
      go_wp2_with (first | refine wpList_load_row rfl 34 _ rfl g6 rfl 34 _ (0, 0) _ hA8 Tryd.underlying34 rfl hiV ?_ | refine wpList_store_row rfl 34 _ _ rfl w.heap.size _ rfl rfl 34 _ hZ hiV hsz ho ?_)
      have hF := setRow_heap w8 w.heap.size _ #[Value.int .i64 a, Value.int .i64 b, Value.int .i64 c, Value.int .i64 d, Value.string t] 34 (0, 0) hZ
      refine bodyPost_ret (results_ct rfl _ _ w.heap.size 34 _ (0, 0) _ rfl hF Tryd.underlying34 rfl hiV) rfl ?_
      exact ⟨by rw [HV.out, HK.out]; rfl, below_setRow hB8.out (Nat.le_refl _) _⟩
end Go.Proofs.YtdgejkiackeieaaDoor.Gm
end
section
set_option linter.unusedVariables false
set_option linter.unusedSimpArgs false
/- Layer 24: what Read accepts, in plain words. -/
set_option linter.unusedVariables false
set_option linter.unusedSimpArgs false
namespace Go.Proofs.YtdgejkiackeieaaDoor.Gm
open Go.RowKit Go.Proofs.YtdgejkiackeieaaDoor Go.Proofs.YtdgejkiackeieaaDoor.Wr
theorem rdr_some {l r : List UInt8} {n : Int} (h : intR l = some (n, r)) (b : Bool) : rdr (intR l) (0 : Int) b = (n, mkB r, b) := by rw [h]; rfl
/-- Reading what was written. -/
theorem rd5_bytes (a b c d : Int) (t : ByteArray) (r : List UInt8) (ha : InR a) (hb : InR b) (hc : InR c) (hd : InR d) : rd5 (coreB a b c d ++ textB t.data.toList ++ r) = ⟨a, b, c, d, t, mkB r, false⟩ := by
  have e1 : intR (coreB a b c d ++ textB t.data.toList ++ r) = some (a, intB b ++ (intB c ++ (intB d ++ (textB t.data.toList ++ r)))) := by
    unfold coreB; simp only [List.append_assoc]; exact intR_intB a ha _
  unfold rd5
  simp only [rdr_some e1, mkB_list, rdr_some (intR_intB b hb _), rdr_some (intR_intB c hc _), rdr_some (intR_intB d hd _), textR_textB, rdrS]
end Go.Proofs.YtdgejkiackeieaaDoor.Gm
end
section
set_option linter.unusedVariables false
set_option linter.unusedSimpArgs false
/- Layer 24: Right, and the making of gauges. -/
set_option linter.unusedVariables false
set_option linter.unusedSimpArgs false
namespace Go.Proofs.YtdgejkiackeieaaDoor.Gm
open Go.RowKit Go.Proofs.YtdgejkiackeieaaDoor Go.Proofs.YtdgejkiackeieaaDoor.Wr Go.Proofs.YtdgejkiackeieaaDoorW.PrintWords Go.Proofs.YtdgejkiackeieaaDoorW.PrintMore Go.Proofs.YtdgejkiackeieaaDoorW.PrintLast
theorem i77 : ∃ (i : TypeInfo) (z : Value), Tryd.prog.info? 172 = some i ∧ i.zero = some z ∧ (i.bytes : Int) ≤ 1000000 := by
  have h : ((Tryd.prog.info? 172).any fun i => i.zero.isSome && decide ((i.bytes : Int) ≤ 1000000)) = true := by kernel_rfl
  cases hi : Tryd.prog.info? 172 with
  | none => rw [hi] at h; cases h
  | some i =>
    rw [hi] at h
    simp only [Option.any_some, Bool.and_eq_true, decide_eq_true_eq] at h
    obtain ⟨z, hz⟩ := Option.isSome_iff_exists.1 h.1
    exact ⟨i, z, rfl, hz, h.2⟩
theorem mk77 (n : Int) (h0 : 0 ≤ n) (h1 : n ≤ 200) : ∃ o, ∀ w : World, (Instr.makeSlice 77 (.int .i64 n) (.int .i64 n)).run Tryd.prog w = .ok (.slice (some ⟨w.heap.size, 0, none⟩) n.toNat n.toNat) (w.alloc o) := by
  obtain ⟨i, z, hi, hz, hb⟩ := i77
  refine ⟨_, fun w => run_make w 77 172 i z Tryd.underlying77 hi hz .i64 .i64 n n h0 (Int.le_refl _) ?_ (by omega)⟩
  have : (i.bytes : Int) * n ≤ 1000000 * 200 := Int.mul_le_mul hb h1 h0 (by decide)
  omega
set_option maxRecDepth 100000 in
theorem Right_any (A : Option Addr) (n c' : Nat) (a b c d : Int) (t : ByteArray) (w : World) (hL : LimW w) (h4 : 4 ≤ w.heap.size) : Calls Tryd.prog 89 #[.agg #[.string ⟨#[]⟩, .slice none 0 0, .int .i64 0, .slice none 0 0, .slice none 0 0, .slice none 0 0, .slice A n c', .slice none 0 0, .slice none 0 0, .slice none 0 0, .int .i64 0], .agg #[.int .i64 a, .int .i64 b, .int .i64 c, .int .i64 d, .string t]] w fun e w' => e = .returned (.bool (formedB a b c d t && decide (a < (n : Int)))) ∧ Below w.heap.size w w' := by
  have HLM := Lib.hid hL
  clear hL
  go_enter Tryd.func89, Tryd.ntmps89
  go_wp2_with fail
  obtain ⟨W, hW⟩ : ∃ W, ((w.alloc (Obj.cells #[Value.string ⟨#[]⟩, Value.slice none 0 0, Value.int .i64 0, Value.slice none 0 0, Value.slice none 0 0, Value.slice none 0 0, Value.slice A n c', Value.slice none 0 0, Value.slice none 0 0, Value.slice none 0 0, Value.int .i64 0] 84)).alloc (Obj.cells #[Value.int .i64 a, Value.int .i64 b, Value.int .i64 c, Value.int .i64 d, Value.string t] 34)) = W := ⟨_, rfl⟩
  have hB : Below w.heap.size w W := by rw [← hW]; exact ((Below.refl _ w).alloc (Nat.le_refl _) _).alloc (by simp) _
  have hb1 : W.heap[w.heap.size]? = some (.cells #[Value.string ⟨#[]⟩, Value.slice none 0 0, Value.int .i64 0, Value.slice none 0 0, Value.slice none 0 0, Value.slice none 0 0, Value.slice A n c', Value.slice none 0 0, Value.slice none 0 0, Value.slice none 0 0, Value.int .i64 0] 84 (0, 0)) := by
    rw [← hW]; exact (((Below.refl _ (w.alloc _)).alloc (Nat.le_refl _) _).block w.heap.size (by simp)).trans (heap_alloc_new w _)
  have hb2 : W.heap[w.heap.size + 1]? = some (.cells #[Value.int .i64 a, Value.int .i64 b, Value.int .i64 c, Value.int .i64 d, Value.string t] 34 (0, 0)) := by rw [← hW]; simpa using heap_alloc_new (w.alloc _) _
  rw [hW]
  clear hW
  refine (formed_any a b c d t _ (HLM.out.below hB h4 h4) (Nat.le_trans h4 hB.size)).mono ?_
  cases hf : formedB a b c d t
  · rintro e w1 ⟨rfl, b1⟩
    have c1 := blk_cell ((b1.block _ (blk_lt hb1)).trans hb1) 6
    have c2 := blk_cell ((b1.block _ (blk_lt hb2)).trans hb2) 0
    have HB := Lib.hid (hB.trans (b1.mono hB.size))
    have HF := Lib.hid hf
    clear hB hb1 hb2 b1 hf
    go_wp2
    go_ret
    exact ⟨by rw [HF.out]; simp, HB.out⟩
  · rintro e w1 ⟨rfl, b1⟩
    have c1 := blk_cell ((b1.block _ (blk_lt hb1)).trans hb1) 6
    have c2 := blk_cell ((b1.block _ (blk_lt hb2)).trans hb2) 0
    have HB := Lib.hid (hB.trans (b1.mono hB.size))
    have HF := Lib.hid hf
    clear hB hb1 hb2 b1 hf
    go_wp2
    go_ret
    exact ⟨by rw [HF.out]; simp, HB.out⟩
theorem other_tag : tagB ⟨#[116]⟩ 3 1 600 (-5) ≠ tagB ⟨#[115]⟩ 3 1 600 (-5) := by decide +kernel
end Go.Proofs.YtdgejkiackeieaaDoor.Gm
end
section
set_option linter.unusedVariables false
set_option linter.unusedSimpArgs false
/- Layer 24: the fixed example of the laws. -/
set_option linter.unusedVariables false
namespace Go.Proofs.YtdgejkiackeieaaDoor.Gm
open Go.RowKit Go.Proofs.YtdgejkiackeieaaDoor Go.Proofs.YtdgejkiackeieaaDoor.Wr Go.Proofs.YtdgejkiackeieaaDoorW.PrintWords Go.Proofs.YtdgejkiackeieaaDoorW.PrintMore Go.Proofs.YtdgejkiackeieaaDoorW.PrintLast
set_option maxRecDepth 100000 in
theorem short_any (x y z : ByteArray) (w : World) : Calls Tryd.prog 38 #[.string x, .string y, .string z] w fun e w' => e = .returned (.bool (decide (x.size ≤ 300 ∧ y.size ≤ 300 ∧ z.size ≤ 300))) ∧ w' = w := by
  by_cases h1 : x.size ≤ 300
  · have i1 : (x.size : Int) ≤ 300 := by omega
    by_cases h2 : y.size ≤ 300
    · have i2 : (y.size : Int) ≤ 300 := by omega
      go_enter Tryd.func38, Tryd.ntmps38
      go_wp2
      go_ret
      exact ⟨by simp [h1, h2]; omega, rfl⟩
    · have i2 : ¬ (y.size : Int) ≤ 300 := by omega
      go_enter Tryd.func38, Tryd.ntmps38
      go_wp2
      go_ret
      exact ⟨by simp [h2], rfl⟩
  · have i1 : ¬ (x.size : Int) ≤ 300 := by omega
    go_enter Tryd.func38, Tryd.ntmps38
    go_wp2
    go_ret
    exact ⟨by simp [h1], rfl⟩
theorem tag_size (s : ByteArray) (a b c d : Int) : (tagB s a b c d).size = 8 := by
  unfold tagB; rw [mkB_size, List.length_take, sumBytes_length]; rfl
theorem formed_tag (s : ByteArray) (a b c d : Int) (h : okN a b c d) : formedB a b c d (tagB s a b c d) = true := by
  unfold formedB; rw [decide_eq_true h, tag_size]; rfl
theorem inr_of {a b c d : Int} (h : okN a b c d) : InR a ∧ InR b ∧ InR c ∧ InR d := by
  obtain ⟨h1, h2, h3, h4⟩ := h
  unfold InR
  omega
theorem okN_of {a b c d : Int} {t : ByteArray} (h : formedB a b c d t = true) : okN a b c d ∧ t.size = 8 := by
  unfold formedB at h
  rw [Bool.and_eq_true, decide_eq_true_iff, decide_eq_true_iff] at h
  exact h
theorem rd5_round (a b c d : Int) (t : ByteArray) (hf : formedB a b c d t = true) : rd5 (bytesL a b c d t) = ⟨a, b, c, d, t, mkB [], false⟩ := by
  obtain ⟨i1, i2, i3, i4⟩ := inr_of (okN_of hf).1
  unfold bytesL
  rw [if_pos hf]
  have := rd5_bytes a b c d t [] i1 i2 i3 i4
  rw [List.append_nil] at this
  exact this
theorem ok_round (a b c d : Int) (t : ByteArray) (hf : formedB a b c d t = true) : (⟨a, b, c, d, t, mkB [], false⟩ : Rd).ok = true := by
  unfold Rd.ok Rd.done; rw [hf]; show (!false && ((mkB []).toList == ([] : List UInt8)) && true) = true; rw [nil_beq]; rfl
theorem core_len (a b c d : Int) (ha : InR a) (hb : InR b) (hc : InR c) (hd : InR d) : (coreB a b c d).length ≤ 36 := pre_len 4 a b c d ha hb hc hd
theorem v_round (a b c d : Int) (t : ByteArray) (hf : formedB a b c d t = true) : (⟨a, b, c, d, t, mkB [], false⟩ : Rd).v = .agg #[.int .i64 a, .int .i64 b, .int .i64 c, .int .i64 d, .string t] := by
  unfold Rd.v; rw [ok_round a b c d t hf]; rfl
theorem rd5_nil : (rd5 []).ok = false ∧ (rd5 []).v = .agg #[.int .i64 0, .int .i64 0, .int .i64 0, .int .i64 0, .string ⟨#[]⟩] := ⟨rfl, rfl⟩
structure Sm (w0 w : World) (g1 g2 g3 : Nat) (T : ByteArray) (p : Addr) : Prop where
  one : Gl w0 w g1 3 1 600 (-5) T
  two : Gl w0 w g2 3 1 600 (-5) T
  three : w.heap[g3]? = some (.cells #[Value.string ⟨#[]⟩, Value.slice none 0 0, Value.int .i64 0, Value.slice none 0 0, Value.slice none 0 0, Value.slice none 0 0, Value.slice (some p) 4 4, Value.slice none 0 0, Value.slice none 0 0, Value.slice none 0 0, Value.int .i64 0] 84 (0, 0))
theorem Sm.more {w0 w w' : World} {g1 g2 g3 : Nat} {T : ByteArray} {p : Addr} (h : Sm w0 w g1 g2 g3 T p) (hb : Below w.heap.size w w') : Sm w0 w' g1 g2 g3 T p := ⟨h.one.more hb, h.two.more hb, (hb.block g3 (blk_lt h.three)).trans h.three⟩
set_option maxHeartbeats 4000000 in
set_option maxRecDepth 100000 in
theorem small24_any (w : World) (hM : MaxW w) (hD : DigW w) (hL : LimW w) (h4 : 4 ≤ w.heap.size) : Calls Tryd.prog 37 #[] w fun e w' => e = .returned (.bool true) ∧ Below w.heap.size w w' := by
  have HM := Lib.hid hM; have HD := Lib.hid hD; have HLM := Lib.hid hL
  have hok : okN 3 1 600 (-5) := by decide
  obtain ⟨T, hT⟩ : ∃ T, tagB ⟨#[115]⟩ 3 1 600 (-5) = T := ⟨_, rfl⟩
  have hf : formedB 3 1 600 (-5) T = true := by rw [← hT]; exact formed_tag _ _ _ _ _ hok
  have hTz : T.size = 8 := by rw [← hT]; exact tag_size _ _ _ _ _
  have HT := Lib.hid hT; have HF := Lib.hid hf
  have hbz : (bytesL 3 1 600 (-5) T).length ≤ 100 := by
    unfold bytesL; rw [if_pos hf, List.length_append]
    have h1 : (coreB 3 1 600 (-5)).length ≤ 36 := core_len 3 1 600 (-5) ⟨by decide, by decide⟩ ⟨by decide, by decide⟩ ⟨by decide, by decide⟩ ⟨by decide, by decide⟩
    have h2 := (textB_length T.data.toList).2
    rw [len_size] at h2; omega
  have HBZ := Lib.hid hbz
  clear hM hD hL hT hf hok hbz
  go_enter Tryd.func37, Tryd.ntmps37
  go_wp2_with fail
  refine (Seal_any ⟨#[115]⟩ 3 1 600 (-5) ⟨#[]⟩ w (by decide) ⟨by decide, by decide⟩ ⟨by decide, by decide⟩ ⟨by decide, by decide⟩ ⟨by decide, by decide⟩ HM.out HD.out).mono ?_
  rw [HT.out]
  rintro e w1 ⟨rfl, b1⟩
  have B1 := Lib.hid b1; clear b1
  go_wp2_with fail
  obtain ⟨W2, hW2⟩ : ∃ W2, (w1.alloc (Obj.cells #[Value.int .i64 3, Value.int .i64 1, Value.int .i64 600, Value.int .i64 (-5), Value.string T] 34)) = W2 := ⟨_, rfl⟩
  obtain ⟨g1, hg1⟩ : ∃ g1, w1.heap.size = g1 := ⟨_, rfl⟩
  have G1 : Hid (Gl w W2 g1 3 1 600 (-5) T) := Lib.hid (by rw [← hW2, ← hg1]; exact ⟨heap_alloc_new w1 _, B1.out.alloc B1.out.size _, B1.out.size⟩)
  rw [hW2, hg1]
  clear hW2 hg1
  refine (Bytes_any 3 1 600 (-5) T _ (by omega) ⟨by decide, by decide⟩ ⟨by decide, by decide⟩ ⟨by decide, by decide⟩ ⟨by decide, by decide⟩ (HM.out.below G1.out.below) (HLM.out.below G1.out.below h4 h4) (Nat.le_trans h4 G1.out.below.size)).mono ?_
  rintro e w2 ⟨rfl, b2⟩
  have G2 := Lib.hid (G1.out.more b2); clear b2
  go_wp2_with fail
  refine (Read_any _ _ (by rw [mkB_size]; exact Nat.le_trans HBZ.out (by decide)) (HLM.out.below G2.out.below h4 h4) (Nat.le_trans h4 G2.out.below.size)).mono ?_
  rw [mkB_list, rd5_round _ _ _ _ _ HF.out, ok_round _ _ _ _ _ HF.out, v_round _ _ _ _ _ HF.out]
  rintro e w3 ⟨rfl, b3⟩
  have G3 := Lib.hid (G2.out.more b3); clear b3
  go_wp2_with fail
  obtain ⟨W4, hW4⟩ : ∃ W4, (w3.alloc (Obj.cells #[Value.int .i64 3, Value.int .i64 1, Value.int .i64 600, Value.int .i64 (-5), Value.string T] 34)) = W4 := ⟨_, rfl⟩
  obtain ⟨g2, hg2⟩ : ∃ g2, w3.heap.size = g2 := ⟨_, rfl⟩
  have G4 : Hid (Gl w W4 g2 3 1 600 (-5) T) := Lib.hid (by rw [← hW4, ← hg2]; exact ⟨heap_alloc_new w3 _, G3.out.below.alloc G3.out.below.size _, G3.out.below.size⟩)
  have G3' : Hid (Gl w W4 g1 3 1 600 (-5) T) := Lib.hid (by rw [← hW4]; exact G3.out.more ((Below.refl _ _).alloc (Nat.le_refl _) _))
  rw [hW4, hg2]
  clear hW4 hg2
  refine (Read_any _ _ (by decide) (HLM.out.below G4.out.below h4 h4) (Nat.le_trans h4 G4.out.below.size)).mono ?_
  rw [show (⟨#[]⟩ : ByteArray).data.toList = [] from rfl, rd5_nil.1, rd5_nil.2]
  rintro e w5 ⟨rfl, b5⟩
  have G5 := Lib.hid (G4.out.more b5); have G5' := Lib.hid (G3'.out.more b5); clear b5
  obtain ⟨o77, mk⟩ := mk77 4 (by decide) (by decide)
  have hB6 : Below w5.heap.size w5 (((w5.alloc (Obj.cells #[Value.int .i64 0, Value.int .i64 0, Value.int .i64 0, Value.int .i64 0, Value.string ⟨#[]⟩] 34)).alloc o77).alloc (Obj.cells #[Value.string ⟨#[]⟩, Value.slice none 0 0, Value.int .i64 0, Value.slice none 0 0, Value.slice none 0 0, Value.slice none 0 0, Value.slice (some ⟨w5.heap.size + 1, 0, none⟩) 4 4, Value.slice none 0 0, Value.slice none 0 0, Value.slice none 0 0, Value.int .i64 0] 84)) := (((Below.refl _ w5).alloc (Nat.le_refl _) _).alloc (by simp) _).alloc (by simp; omega) _
  have G6' := G5'.out.more hB6
  have c0 := blk_cell G6'.blk 0; have c1 := blk_cell G6'.blk 1; have c2 := blk_cell G6'.blk 2; have c3 := blk_cell G6'.blk 3; have c4 := blk_cell G6'.blk 4
  clear hB6 G6'
  go_wp2_with fail
  clear c0 c1 c2 c3 c4
  obtain ⟨W6, hW6⟩ : ∃ W6, ((w5.alloc (Obj.cells #[Value.int .i64 0, Value.int .i64 0, Value.int .i64 0, Value.int .i64 0, Value.string ⟨#[]⟩] 34)).alloc o77).alloc (Obj.cells #[Value.string ⟨#[]⟩, Value.slice none 0 0, Value.int .i64 0, Value.slice none 0 0, Value.slice none 0 0, Value.slice none 0 0, Value.slice (some ⟨w5.heap.size + 1, 0, none⟩) 4 4, Value.slice none 0 0, Value.slice none 0 0, Value.slice none 0 0, Value.int .i64 0] 84) = W6 := ⟨_, rfl⟩
  have hB6 : Below w5.heap.size w5 W6 := by rw [← hW6]; exact (((Below.refl _ w5).alloc (Nat.le_refl _) _).alloc (by simp) _).alloc (by simp; omega) _
  have h3 : W6.heap[w5.heap.size + 1 + 1]? = some (.cells #[Value.string ⟨#[]⟩, Value.slice none 0 0, Value.int .i64 0, Value.slice none 0 0, Value.slice none 0 0, Value.slice none 0 0, Value.slice (some ⟨w5.heap.size + 1, 0, none⟩) 4 4, Value.slice none 0 0, Value.slice none 0 0, Value.slice none 0 0, Value.int .i64 0] 84 (0, 0)) := by rw [← hW6]; simpa using heap_alloc_new ((w5.alloc (Obj.cells #[Value.int .i64 0, Value.int .i64 0, Value.int .i64 0, Value.int .i64 0, Value.string ⟨#[]⟩] 34)).alloc o77) _
  rw [hW6]
  clear hW6
  obtain ⟨p, hp⟩ : ∃ p : Addr, (⟨w5.heap.size + 1, 0, none⟩ : Addr) = p := ⟨_, rfl⟩
  obtain ⟨g3, hg3⟩ : ∃ g3, w5.heap.size + 1 + 1 = g3 := ⟨_, rfl⟩
  rw [hp, hg3] at h3
  rw [hg3]
  have S6 : Hid (Sm w W6 g1 g2 g3 T p) := Lib.hid ⟨G5'.out.more hB6, G5.out.more hB6, h3⟩
  clear hB6 h3 hp hg3
  have hgs : genuineB ⟨#[115]⟩ 3 1 600 (-5) T = true := by unfold genuineB; rw [HF.out, HT.out, decide_eq_true rfl]; rfl
  have hgt : genuineB ⟨#[116]⟩ 3 1 600 (-5) T = false := by unfold genuineB; rw [HF.out, decide_eq_false (by rw [← HT.out]; exact other_tag)]; rfl
  have HGS := Lib.hid hgs; have HGT := Lib.hid hgt
  clear hgs hgt
  refine (Genuine_any ⟨#[115]⟩ 3 1 600 (-5) T _ (by decide) ⟨by decide, by decide⟩ ⟨by decide, by decide⟩ ⟨by decide, by decide⟩ ⟨by decide, by decide⟩ (HM.out.below S6.out.one.below) (HD.out.below S6.out.one.below) (HLM.out.below S6.out.one.below h4 h4) (Nat.le_trans h4 S6.out.one.below.size)).mono ?_
  rw [HGS.out]
  rintro e w7 ⟨rfl, b7⟩
  have S7 := Lib.hid (S6.out.more b7); clear b7
  have a0 := blk_cell S7.out.one.blk 0; have a1 := blk_cell S7.out.one.blk 1; have a2 := blk_cell S7.out.one.blk 2; have a3 := blk_cell S7.out.one.blk 3; have a4 := blk_cell S7.out.one.blk 4; have b0 := blk_cell S7.out.two.blk 0; have b1 := blk_cell S7.out.two.blk 1; have b2 := blk_cell S7.out.two.blk 2; have b3 := blk_cell S7.out.two.blk 3; have b4 := blk_cell S7.out.two.blk 4; have e0 := blk_cell S7.out.three 0; have e1 := blk_cell S7.out.three 1; have e2 := blk_cell S7.out.three 2; have e3 := blk_cell S7.out.three 3; have e4 := blk_cell S7.out.three 4; have e5 := blk_cell S7.out.three 5; have e6 := blk_cell S7.out.three 6; have e7 := blk_cell S7.out.three 7; have e8 := blk_cell S7.out.three 8; have e9 := blk_cell S7.out.three 9; have e10 := blk_cell S7.out.three 10
  go_wp2_with fail
  clear a0 b0 a1 b1 a2 b2 a3 b3 a4 b4 e0 e1 e2 e3 e4 e5 e6 e7 e8 e9 e10
  refine (Genuine_any ⟨#[116]⟩ 3 1 600 (-5) T _ (by decide) ⟨by decide, by decide⟩ ⟨by decide, by decide⟩ ⟨by decide, by decide⟩ ⟨by decide, by decide⟩ (HM.out.below S7.out.one.below) (HD.out.below S7.out.one.below) (HLM.out.below S7.out.one.below h4 h4) (Nat.le_trans h4 S7.out.one.below.size)).mono ?_
  rw [HGT.out]
  rintro e w8 ⟨rfl, b8⟩
  have S8 := Lib.hid (S7.out.more b8); clear b8
  have a0 := blk_cell S8.out.one.blk 0; have a1 := blk_cell S8.out.one.blk 1; have a2 := blk_cell S8.out.one.blk 2; have a3 := blk_cell S8.out.one.blk 3; have a4 := blk_cell S8.out.one.blk 4; have b0 := blk_cell S8.out.two.blk 0; have b1 := blk_cell S8.out.two.blk 1; have b2 := blk_cell S8.out.two.blk 2; have b3 := blk_cell S8.out.two.blk 3; have b4 := blk_cell S8.out.two.blk 4; have e0 := blk_cell S8.out.three 0; have e1 := blk_cell S8.out.three 1; have e2 := blk_cell S8.out.three 2; have e3 := blk_cell S8.out.three 3; have e4 := blk_cell S8.out.three 4; have e5 := blk_cell S8.out.three 5; have e6 := blk_cell S8.out.three 6; have e7 := blk_cell S8.out.three 7; have e8 := blk_cell S8.out.three 8; have e9 := blk_cell S8.out.three 9; have e10 := blk_cell S8.out.three 10
  go_wp2_with fail
  clear a0 b0 a1 b1 a2 b2 a3 b3 a4 b4 e0 e1 e2 e3 e4 e5 e6 e7 e8 e9 e10
  refine (Right_any (some p) 4 4 3 1 600 (-5) T _ (HLM.out.below S8.out.one.below h4 h4) (Nat.le_trans h4 S8.out.one.below.size)).mono ?_
  rw [HF.out]
  rintro e w9 ⟨rfl, b9⟩
  have S9 := Lib.hid (S8.out.more b9); clear b9
  have a0 := blk_cell S9.out.one.blk 0; have a1 := blk_cell S9.out.one.blk 1; have a2 := blk_cell S9.out.one.blk 2; have a3 := blk_cell S9.out.one.blk 3; have a4 := blk_cell S9.out.one.blk 4; have b0 := blk_cell S9.out.two.blk 0; have b1 := blk_cell S9.out.two.blk 1; have b2 := blk_cell S9.out.two.blk 2; have b3 := blk_cell S9.out.two.blk 3; have b4 := blk_cell S9.out.two.blk 4; have e0 := blk_cell S9.out.three 0; have e1 := blk_cell S9.out.three 1; have e2 := blk_cell S9.out.three 2; have e3 := blk_cell S9.out.three 3; have e4 := blk_cell S9.out.three 4; have e5 := blk_cell S9.out.three 5; have e6 := blk_cell S9.out.three 6; have e7 := blk_cell S9.out.three 7; have e8 := blk_cell S9.out.three 8; have e9 := blk_cell S9.out.three 9; have e10 := blk_cell S9.out.three 10
  go_wp2_with fail
  clear a0 b0 a1 b1 a2 b2 a3 b3 a4 b4 e0 e1 e2 e3 e4 e5 e6 e7 e8 e9 e10
  refine (Right_any none 0 0 3 1 600 (-5) T _ (HLM.out.below S9.out.one.below h4 h4) (Nat.le_trans h4 S9.out.one.below.size)).mono ?_
  rw [HF.out]
  rintro e w10 ⟨rfl, b10⟩
  have S10 := Lib.hid (S9.out.more b10); clear b10
  go_wp2_with fail
  refine (Bytes_any 0 0 0 0 ⟨#[]⟩ _ (by decide) ⟨by decide, by decide⟩ ⟨by decide, by decide⟩ ⟨by decide, by decide⟩ ⟨by decide, by decide⟩ (HM.out.below S10.out.one.below) (HLM.out.below S10.out.one.below h4 h4) (Nat.le_trans h4 S10.out.one.below.size)).mono ?_
  rw [show mkB (bytesL 0 0 0 0 ⟨#[]⟩) = (⟨#[]⟩ : ByteArray) from by rfl]
  rintro e w11 ⟨rfl, b11⟩
  have S11 := Lib.hid (S10.out.more b11); clear b11
  go_wp2
  go_ret
  exact ⟨rfl, S11.out.one.below⟩
end Go.Proofs.YtdgejkiackeieaaDoor.Gm
end
section
set_option linter.unusedVariables false
set_option linter.unusedSimpArgs false
/- The walk of GramReads. -/
set_option linter.unusedVariables false
set_option linter.unusedSimpArgs false
namespace Go.Proofs.YtdgejkiackeieaaDoor.Gm
open Go.RowKit Go.Proofs.YtdgejkiackeieaaDoor Go.Proofs.YtdgejkiackeieaaDoor.Wr Go.Proofs.YtdgejkiackeieaaDoorW.PrintWords Go.Proofs.YtdgejkiackeieaaDoorW.PrintMore Go.Proofs.YtdgejkiackeieaaDoorW.PrintLast
theorem bytes_no {a b c d : Int} {t : ByteArray} (h : formedB a b c d t = false) : mkB (bytesL a b c d t) = ⟨#[]⟩ := by unfold bytesL; rw [h]; rfl
theorem bytes_len (a b c d : Int) (t : ByteArray) (h : formedB a b c d t = true) : 1 ≤ (bytesL a b c d t).length ∧ (bytesL a b c d t).length ≤ 100 := by
  obtain ⟨i1, i2, i3, i4⟩ := inr_of (okN_of h).1
  have h8 := (okN_of h).2
  unfold bytesL; rw [if_pos h, List.length_append]
  have h1 := core_len a b c d i1 i2 i3 i4
  have h2 := textB_length t.data.toList
  rw [len_size] at h2; omega
/-- Two telegrams of the call's own. -/
structure Two (w0 w : World) (g : Nat) (a b c d : Int) (t : ByteArray) (h : Nat) (a' b' c' d' : Int) (t' : ByteArray) : Prop where
  one : Gl w0 w g a b c d t
  two : Gl w0 w h a' b' c' d' t'
theorem Two.more {w0 w w' : World} {g : Nat} {a b c d : Int} {t : ByteArray} {h : Nat} {a' b' c' d' : Int} {t' : ByteArray} (H : Two w0 w g a b c d t h a' b' c' d' t') (hb : Below w.heap.size w w') : Two w0 w' g a b c d t h a' b' c' d' t' := ⟨H.one.more hb, H.two.more hb⟩
end Go.Proofs.YtdgejkiackeieaaDoor.Gm
end
section
set_option linter.unusedVariables false
set_option linter.unusedSimpArgs false
/- The walk of GramSeals. -/
set_option linter.unusedVariables false
set_option linter.unusedSimpArgs false
namespace Go.Proofs.YtdgejkiackeieaaDoor.Gm
open Go.RowKit Go.Proofs.YtdgejkiackeieaaDoor Go.Proofs.YtdgejkiackeieaaDoor.Wr Go.Proofs.YtdgejkiackeieaaDoorW.PrintWords Go.Proofs.YtdgejkiackeieaaDoorW.PrintMore Go.Proofs.YtdgejkiackeieaaDoorW.PrintLast
/-- The telegram, the sealed one, and its copy. -/
structure Th (w0 w : World) (g : Nat) (a b c d : Int) (t : ByteArray) (h : Nat) (T : ByteArray) (k : Nat) : Prop where
  one : Gl w0 w g a b c d t
  two : Gl w0 w h a b c d T
  three : Gl w0 w k a b c d t
theorem Th.more {w0 w w' : World} {g : Nat} {a b c d : Int} {t : ByteArray} {h : Nat} {T : ByteArray} {k : Nat} (H : Th w0 w g a b c d t h T k) (hb : Below w.heap.size w w') : Th w0 w' g a b c d t h T k := ⟨H.one.more hb, H.two.more hb, H.three.more hb⟩
end Go.Proofs.YtdgejkiackeieaaDoor.Gm
end
section
set_option linter.unusedVariables false
set_option linter.unusedSimpArgs false
/- The frames of layer 23 in plain words: bodies, escapes, stretches, and how a stream is decoded. No program in sight. -/
set_option linter.unusedVariables false
set_option linter.unusedSimpArgs false
namespace Go.Proofs.YtdgejkiackeieaaDoor.Fr
open Go.Proofs.YtdgejkiackeieaaDoor
/-- The escaped form. -/
def escB (l : List UInt8) : List UInt8 := l.flatMap fun c => if c = 125 then [125, 93] else if c = 126 then [125, 94] else [c]
theorem escB_cons (c : UInt8) (l : List UInt8) : escB (c :: l) = (if c = 125 then [125, 93] else if c = 126 then [125, 94] else [c]) ++ escB l := by simp [escB]
theorem escB_length (l : List UInt8) : l.length ≤ (escB l).length ∧ (escB l).length ≤ 2 * l.length := by
  induction l with
  | nil => exact ⟨Nat.le_refl _, Nat.le_refl _⟩
  | cons c l ih =>
    rw [escB_cons, List.length_append, List.length_cons]
    by_cases h1 : c = 125
    · rw [if_pos h1]; simp; omega
    · rw [if_neg h1]
      by_cases h2 : c = 126
      · rw [if_pos h2]; simp; omega
      · rw [if_neg h2]; simp; omega
theorem escB_flag (l : List UInt8) : 126 ∉ escB l := by
  induction l with
  | nil => simp [escB]
  | cons c l ih =>
    rw [escB_cons, List.mem_append]
    rintro (h | h)
    · by_cases h1 : c = 125
      · rw [if_pos h1] at h; revert h; decide
      · rw [if_neg h1] at h
        by_cases h2 : c = 126
        · rw [if_pos h2] at h; revert h; decide
        · rw [if_neg h2] at h; exact h2 (List.mem_singleton.1 h).symm
    · exact ih h
/-- Two replacements in a row, as the program escapes. -/
theorem esc_two (l : List UInt8) : Lib.replaceAll (Lib.replaceAll l [125] [125, 93]) [126] [125, 94] = escB l := by
  rw [replaceAll_one, replaceAll_one, List.flatMap_assoc]
  unfold escB
  congr 1
  funext c
  by_cases h1 : c = 125
  · rw [if_pos h1, if_pos h1]; rfl
  · rw [if_neg h1, if_neg h1]
    by_cases h2 : c = 126
    · subst h2; rfl
    · rw [if_neg h2]; simp [h2]
/-- The half of the escapes. -/
def escH (l : List UInt8) : List UInt8 := l.flatMap fun c => if c = 125 then [125, 93] else [c]
theorem escH_cons (c : UInt8) (l : List UInt8) : escH (c :: l) = (if c = 125 then [125, 93] else [c]) ++ escH l := by simp [escH]
theorem scan_pair_miss (a b : UInt8) (new : List UInt8) (f : Nat) (c : UInt8) (l : List UInt8) (h : ¬ (c = a ∧ l.head? = some b)) : scan [a, b] new (f + 1) (c :: l) = c :: scan [a, b] new f l := by
  rw [scan, if_neg]
  intro hp
  apply h
  cases l with
  | nil => simp [List.isPrefixOf] at hp
  | cons d l =>
    simp [List.isPrefixOf] at hp
    exact ⟨hp.1.symm, by simp [hp.2]⟩
theorem scan_pair_hit (a b : UInt8) (new : List UInt8) (f : Nat) (l : List UInt8) : scan [a, b] new (f + 1) (a :: b :: l) = new ++ scan [a, b] new f l := by
  rw [scan, if_pos (by simp [List.isPrefixOf])]
  rfl
theorem scan_one (l : List UInt8) : ∀ f, (escB l).length ≤ f → scan [125, 94] [126] f (escB l) = escH l := by
  induction l with
  | nil => intro f _; exact scan_nil _ _ _
  | cons c l ih =>
    intro f hf
    rw [escB_cons, List.length_append] at hf
    rw [escB_cons, escH_cons]
    by_cases h1 : c = 125
    · rw [if_pos h1] at hf ⊢
      rw [if_pos h1]
      simp only [List.length_cons, List.length_nil] at hf
      obtain ⟨f, rfl⟩ : ∃ m, f = m + 2 := ⟨f - 2, by omega⟩
      show scan [125, 94] [126] (f + 2) (125 :: 93 :: escB l) = 125 :: 93 :: escH l
      rw [scan_pair_miss _ _ _ _ _ _ (by simp), scan_pair_miss _ _ _ _ _ _ (by simp), ih f (by omega)]
    · rw [if_neg h1] at hf ⊢
      rw [if_neg h1]
      by_cases h2 : c = 126
      · rw [if_pos h2] at hf ⊢
        subst h2
        simp only [List.length_cons, List.length_nil] at hf
        obtain ⟨f, rfl⟩ : ∃ m, f = m + 1 := ⟨f - 1, by omega⟩
        show scan [125, 94] [126] (f + 1) (125 :: 94 :: escB l) = 126 :: escH l
        rw [scan_pair_hit, ih f (by omega)]; rfl
      · rw [if_neg h2] at hf ⊢
        simp only [List.length_cons, List.length_nil] at hf
        obtain ⟨f, rfl⟩ : ∃ m, f = m + 1 := ⟨f - 1, by omega⟩
        show scan [125, 94] [126] (f + 1) (c :: escB l) = c :: escH l
        rw [scan_pair_miss _ _ _ _ _ _ (by simp [h1]), ih f (by omega)]
theorem scan_two (l : List UInt8) : ∀ f, (escH l).length ≤ f → scan [125, 93] [125] f (escH l) = l := by
  induction l with
  | nil => intro f _; exact scan_nil _ _ _
  | cons c l ih =>
    intro f hf
    rw [escH_cons, List.length_append] at hf
    rw [escH_cons]
    by_cases h1 : c = 125
    · rw [if_pos h1] at hf ⊢
      subst h1
      simp only [List.length_cons, List.length_nil] at hf
      obtain ⟨f, rfl⟩ : ∃ m, f = m + 1 := ⟨f - 1, by omega⟩
      show scan [125, 93] [125] (f + 1) (125 :: 93 :: escH l) = 125 :: l
      rw [scan_pair_hit, ih f (by omega)]; rfl
    · rw [if_neg h1] at hf ⊢
      simp only [List.length_cons, List.length_nil] at hf
      obtain ⟨f, rfl⟩ : ∃ m, f = m + 1 := ⟨f - 1, by omega⟩
      show scan [125, 93] [125] (f + 1) (c :: escH l) = c :: l
      rw [scan_pair_miss _ _ _ _ _ _ (by simp [h1]), ih f (by omega)]
/-- How a stretch is read back. -/
def unescB (s : List UInt8) : List UInt8 := Lib.replaceAll (Lib.replaceAll s [125, 94] [126]) [125, 93] [125]
theorem unesc_esc (l : List UInt8) : unescB (escB l) = l := by
  unfold unescB
  rw [replaceAll_scan _ _ _ (by simp), replaceAll_scan _ _ _ (by simp), scan_one l _ (Nat.le_refl _), scan_two l _ (Nat.le_refl _)]
theorem scan_length (old new : List UInt8) (h1 : 1 ≤ old.length) (h : new.length ≤ old.length) : ∀ (f : Nat) (s : List UInt8), (scan old new f s).length ≤ s.length := by
  intro f
  induction f with
  | zero => intro s; exact Nat.le_refl _
  | succ f ih =>
    intro s
    cases s with
    | nil => exact Nat.le_refl _
    | cons b l =>
      rw [scan]
      split
      · rename_i hp
        have hle : old.length ≤ (b :: l).length := by
          obtain ⟨t, ht⟩ := List.isPrefixOf_iff_prefix.1 hp
          rw [← ht, List.length_append]; omega
        have := ih ((b :: l).drop old.length)
        rw [List.length_drop] at this
        rw [List.length_append]; omega
      · have := ih l
        simp only [List.length_cons]; omega
theorem unesc_length (s : List UInt8) : (unescB s).length ≤ s.length := by
  unfold unescB
  rw [replaceAll_scan _ _ _ (by simp), replaceAll_scan _ _ _ (by simp)]
  exact Nat.le_trans (scan_length _ _ (by simp) (by simp) _ _) (scan_length _ _ (by simp) (by simp) _ _)
/-! ### bodies; the checksum is a parameter -/
section
variable (crc : List UInt8 → Nat)
def crcB (l : List UInt8) : List UInt8 := [UInt8.ofNat (crc l % 256), UInt8.ofNat (crc l / 256)]
def bodyB (l : List UInt8) : List UInt8 := l ++ crcB crc l
theorem bodyB_length (l : List UInt8) : (bodyB crc l).length = l.length + 2 := by simp [bodyB, crcB]
theorem bodyB_take (l : List UInt8) : (bodyB crc l).take ((bodyB crc l).length - 2) = l := by
  rw [bodyB_length, Nat.add_sub_cancel]; unfold bodyB; simp
def frB (l : List UInt8) : List UInt8 := escB (bodyB crc l)
/-- The frame of a payload. -/
def encB (l : List UInt8) : List UInt8 := if (frB crc l).length ≤ 2048 then 126 :: (frB crc l ++ [126]) else []
/-- What a stretch contains. -/
def payB (s : List UInt8) : Option (List UInt8) :=
  if s.length ≤ 2048 then
    if 2 ≤ (unescB s).length ∧ escB (unescB s) = s ∧ bodyB crc ((unescB s).take ((unescB s).length - 2)) = unescB s then some ((unescB s).take ((unescB s).length - 2)) else none
  else none
theorem payB_some {s p : List UInt8} : payB crc s = some p ↔ s = frB crc p ∧ s.length ≤ 2048 := by
  unfold payB
  constructor
  · intro h
    by_cases h1 : s.length ≤ 2048
    · rw [if_pos h1] at h
      by_cases h2 : 2 ≤ (unescB s).length ∧ escB (unescB s) = s ∧ bodyB crc ((unescB s).take ((unescB s).length - 2)) = unescB s
      · rw [if_pos h2] at h
        cases h
        exact ⟨by unfold frB; rw [h2.2.2, h2.2.1], h1⟩
      · rw [if_neg h2] at h; cases h
    · rw [if_neg h1] at h; cases h
  · rintro ⟨rfl, h1⟩
    rw [if_pos h1]
    have e : unescB (frB crc p) = bodyB crc p := unesc_esc _
    rw [e, bodyB_take, if_pos ⟨by rw [bodyB_length]; omega, rfl, rfl⟩]
theorem payB_nil : payB crc [] = none := by
  cases h : payB crc [] with
  | none => rfl
  | some p =>
    have h1 := (payB_some crc).1 h
    have h2 := (escB_length (bodyB crc p)).1
    rw [bodyB_length] at h2
    have h3 : (frB crc p).length = 0 := by rw [← h1.1]; rfl
    unfold frB at h3; omega
theorem payB_long {s : List UInt8} (h : 2048 < s.length) : payB crc s = none := by unfold payB; rw [if_neg (by omega)]
/-! ### streams -/
/-- The parts of a stream between its flags. -/
def parts : List UInt8 → List UInt8 × List (List UInt8)
  | [] => ([], [])
  | c :: l => if c = 126 then ([], (parts l).1 :: (parts l).2) else (c :: (parts l).1, (parts l).2)
theorem parts_flag (l : List UInt8) : parts (126 :: l) = ([], (parts l).1 :: (parts l).2) := by rw [parts, if_pos rfl]
theorem parts_ne {c : UInt8} (h : c ≠ 126) (l : List UInt8) : parts (c :: l) = (c :: (parts l).1, (parts l).2) := by rw [parts, if_neg h]
theorem parts_app (a b : List UInt8) (h : 126 ∉ a) : parts (a ++ b) = (a ++ (parts b).1, (parts b).2) := by
  induction a with
  | nil => rfl
  | cons c a ih =>
    have hc : c ≠ 126 := fun e => h (by rw [e]; exact List.mem_cons_self ..)
    rw [List.cons_append, parts_ne hc, ih (fun e => h (List.mem_cons_of_mem _ e))]; rfl
theorem parts_free (a : List UInt8) (h : 126 ∉ a) : parts a = (a, []) := by
  have := parts_app a [] h
  rw [List.append_nil] at this
  rw [this]; simp [parts]
/-- The last of the parts behind the first flag, or what there is. -/
def lastP : List UInt8 → List (List UInt8) → List UInt8
  | d, [] => d
  | _, x :: xs => lastP x xs
/-- The parts between two flags. -/
def segs (l : List UInt8) : List (List UInt8) := (parts l).2.dropLast
/-- What is left behind the last flag, with that flag. -/
def restOf : List (List UInt8) → List UInt8
  | [] => []
  | x :: xs => if (lastP x xs).length ≤ 2048 then 126 :: lastP x xs else []
def restB (l : List UInt8) : List UInt8 := restOf (parts l).2
def pays (l : List UInt8) : List (List UInt8) := (segs l).filterMap (payB crc)
theorem parts_append (a b : List UInt8) : parts (a ++ b) = match (parts a).2 with
    | [] => ((parts a).1 ++ (parts b).1, (parts b).2)
    | x :: xs => ((parts a).1, (x :: xs).dropLast ++ (lastP x xs ++ (parts b).1) :: (parts b).2) := by
  induction a with
  | nil => rfl
  | cons c a ih =>
    by_cases hc : c = 126
    · subst hc
      rw [List.cons_append, parts_flag, ih, parts_flag]
      cases h : (parts a).2 with
      | nil => simp [lastP]
      | cons x xs => simp [lastP]
    · rw [List.cons_append, parts_ne hc, ih, parts_ne hc]
      cases h : (parts a).2 with
      | nil => simp
      | cons x xs => simp
theorem lastP_append (x : List UInt8) (xs : List (List UInt8)) (y : List UInt8) (ys : List (List UInt8)) : ∀ d, lastP d (xs ++ y :: ys) = lastP y ys := by
  induction xs with
  | nil => intro d; rfl
  | cons z xs ih => intro d; exact ih z
theorem restOf_append (xs : List (List UInt8)) (y : List UInt8) (ys : List (List UInt8)) : restOf (xs ++ y :: ys) = restOf (y :: ys) := by
  cases xs with
  | nil => rfl
  | cons z xs =>
    show (if (lastP z (xs ++ y :: ys)).length ≤ 2048 then 126 :: lastP z (xs ++ y :: ys) else []) = _
    rw [lastP_append z]
    rfl
theorem dropLast_lastP (x : List UInt8) (xs : List (List UInt8)) : x :: xs = (x :: xs).dropLast ++ [lastP x xs] := by
  induction xs generalizing x with
  | nil => rfl
  | cons y ys ih => simp only [List.dropLast_cons_cons, lastP, List.cons_append]; rw [← ih]
theorem parts_hfree (l : List UInt8) : 126 ∉ (parts l).1 ∧ ∀ z ∈ (parts l).2, 126 ∉ z := by
  induction l with
  | nil => simp [parts]
  | cons c l ih =>
    by_cases hc : c = 126
    · subst hc
      rw [parts_flag]
      refine ⟨by simp, ?_⟩
      intro z hz
      rcases List.mem_cons.1 hz with h | h
      · rw [h]; exact ih.1
      · exact ih.2 z h
    · rw [parts_ne hc]
      refine ⟨?_, ih.2⟩
      intro h
      rcases List.mem_cons.1 h with h | h
      · exact hc h.symm
      · exact ih.1 h
/-- The decoding of a stream that arrives in two portions. -/
theorem cut_two (a b : List UInt8) : pays crc (a ++ b) = pays crc a ++ pays crc (restB a ++ b) ∧ restB (a ++ b) = restB (restB a ++ b) := by
  unfold pays segs
  cases ha : (parts a).2 with
  | nil =>
    have e : restB a = [] := by unfold restB; rw [ha]; rfl
    have e2 : parts (a ++ b) = ((parts a).1 ++ (parts b).1, (parts b).2) := by rw [parts_append, ha]
    rw [e, e2, List.nil_append]
    refine ⟨by simp, ?_⟩
    unfold restB; rw [e2]
  | cons x xs =>
    have e2 : parts (a ++ b) = ((parts a).1, (x :: xs).dropLast ++ (lastP x xs ++ (parts b).1) :: (parts b).2) := by rw [parts_append, ha]
    by_cases hl : (lastP x xs).length ≤ 2048
    · have e : restB a = 126 :: lastP x xs := by unfold restB; rw [ha]; simp [restOf, hl]
      have hin : lastP x xs ∈ x :: xs := by rw [dropLast_lastP x xs]; simp
      have hf := (parts_hfree a).2 (lastP x xs) (by rw [ha]; exact hin)
      have e3 : parts (restB a ++ b) = ([], (lastP x xs ++ (parts b).1) :: (parts b).2) := by rw [e, List.cons_append, parts_flag, parts_app _ _ hf]
      rw [e2, e3]
      refine ⟨?_, ?_⟩
      · show List.filterMap (payB crc) ((x :: xs).dropLast ++ (lastP x xs ++ (parts b).1) :: (parts b).2).dropLast = _
        rw [List.dropLast_append_of_ne_nil (by simp), List.filterMap_append]
      · show restOf (parts (a ++ b)).2 = restOf (parts (restB a ++ b)).2
        rw [e2, e3]
        exact restOf_append _ _ _
    · have e : restB a = [] := by unfold restB; rw [ha]; simp [restOf, hl]
      rw [e, e2, List.nil_append]
      refine ⟨?_, ?_⟩
      · show List.filterMap (payB crc) ((x :: xs).dropLast ++ (lastP x xs ++ (parts b).1) :: (parts b).2).dropLast = _
        rw [List.dropLast_append_of_ne_nil (by simp), List.filterMap_append]
        congr 1
        cases hb : (parts b).2 with
        | nil => rfl
        | cons y ys =>
          simp only [List.dropLast_cons_cons]
          rw [List.filterMap_cons_none (payB_long crc (by rw [List.length_append]; omega))]
      · show restOf (parts (a ++ b)).2 = restOf (parts b).2
        rw [e2]
        show restOf ((x :: xs).dropLast ++ (lastP x xs ++ (parts b).1) :: (parts b).2) = _
        rw [restOf_append]
        cases hb : (parts b).2 with
        | nil => exact if_neg (by simp only [lastP]; rw [List.length_append]; omega)
        | cons y ys => rfl
end
end Go.Proofs.YtdgejkiackeieaaDoor.Fr
end
section
set_option linter.unusedVariables false
set_option linter.unusedSimpArgs false
/- The laws of layer 23 in plain words: frames that follow each other, frames found in a stream, flags. No program in sight. -/
set_option linter.unusedVariables false
set_option linter.unusedSimpArgs false
namespace Go.Proofs.YtdgejkiackeieaaDoor.Fr
open Go.Proofs.YtdgejkiackeieaaDoor
section
variable (crc : List UInt8 → Nat)
theorem frB_length (l : List UInt8) : l.length + 2 ≤ (frB crc l).length ∧ (frB crc l).length ≤ 2 * l.length + 4 := by
  unfold frB
  have := escB_length (bodyB crc l)
  rw [bodyB_length] at this
  omega
theorem frB_free (l : List UInt8) : 126 ∉ frB crc l := escB_flag _
theorem encB_pos {l : List UInt8} (h : (frB crc l).length ≤ 2048) : encB crc l = 126 :: (frB crc l ++ [126]) := if_pos h
theorem encB_neg {l : List UInt8} (h : ¬ (frB crc l).length ≤ 2048) : encB crc l = [] := if_neg h
theorem encB_nil {l : List UInt8} : encB crc l = [] ↔ ¬ (frB crc l).length ≤ 2048 := by
  by_cases h : (frB crc l).length ≤ 2048
  · rw [encB_pos crc h]; simp [h]
  · rw [encB_neg crc h]; simp [h]
theorem encB_length (l : List UInt8) : (encB crc l).length ≤ 2050 := by
  unfold encB
  split
  · simp; omega
  · simp
theorem encB_short {l : List UInt8} (h : l.length ≤ 1000) : encB crc l ≠ [] := by
  intro e
  have := (encB_nil crc).1 e
  have := (frB_length crc l).2
  omega
/-! ### streams of frames -/
theorem pays_free {a : List UInt8} (h : 126 ∉ a) : pays crc a = [] ∧ restB a = [] := by
  unfold pays segs restB
  rw [parts_free a h]
  exact ⟨rfl, rfl⟩
/-- A flag, a stretch, a flag, and what follows. -/
theorem pays_seg {a : List UInt8} (h : 126 ∉ a) (b : List UInt8) : pays crc (126 :: (a ++ 126 :: b)) = (payB crc a).toList ++ pays crc (126 :: b) := by
  unfold pays segs
  rw [parts_flag, parts_flag, parts_app a _ h, parts_flag]
  simp only [List.append_nil, List.dropLast_cons_cons]
  rw [List.filterMap_cons]
  cases payB crc a <;> rfl
theorem pays_open {a : List UInt8} (h : 126 ∉ a) : pays crc (126 :: a) = [] := by
  unfold pays segs
  rw [parts_flag, parts_free a h]
  rfl
theorem rest_seg {a : List UInt8} (h : 126 ∉ a) (b : List UInt8) : restB (126 :: (a ++ 126 :: b)) = restB (126 :: b) := by
  unfold restB
  rw [parts_flag, parts_flag, parts_app a _ h, parts_flag]
  rfl
theorem rest_flag : restB [126] = [126] := by decide
theorem pays_flag : pays crc [126] = [] := pays_open crc (a := []) (by simp)
/-- A frame behind a stream that holds no flag. -/
theorem pays_frame {l : List UInt8} (h : encB crc l ≠ []) : pays crc (encB crc l) = [l] ∧ restB (encB crc l) = [126] ∧ pays crc (126 :: encB crc l) = [l] ∧ restB (126 :: encB crc l) = [126] := by
  have h1 : (frB crc l).length ≤ 2048 := Decidable.by_contra fun hn => h (encB_neg crc hn)
  have hp : payB crc (frB crc l) = some l := (payB_some crc).2 ⟨rfl, h1⟩
  have k1 : pays crc (encB crc l) = [l] := by
    rw [encB_pos crc h1, pays_seg crc (frB_free crc l) [], hp, pays_flag]; rfl
  have k2 : restB (encB crc l) = [126] := by
    rw [encB_pos crc h1, rest_seg (frB_free crc l) [], rest_flag]
  refine ⟨k1, k2, ?_, ?_⟩
  · rw [encB_pos crc h1] at k1 ⊢
    have := pays_seg crc (a := []) (by simp) (frB crc l ++ [126])
    rw [List.nil_append] at this
    rw [this, payB_nil, k1]; rfl
  · rw [encB_pos crc h1] at k2 ⊢
    have := rest_seg (a := []) (by simp) (frB crc l ++ [126])
    rw [List.nil_append] at this
    rw [this, k2]
/-- What the stream of frames so far has given. -/
def Back (s : List UInt8) (want : List (List UInt8)) : Prop := pays crc s = want ∧ restB s = (if want = [] then [] else [126])
theorem Back.start {a : List UInt8} (h : 126 ∉ a) : Back crc a [] := pays_free crc h
theorem Back.step {s : List UInt8} {want : List (List UInt8)} (h : Back crc s want) (l : List UInt8) : Back crc (s ++ encB crc l) (if encB crc l = [] then want else want ++ [l]) := by
  by_cases he : encB crc l = []
  · rw [if_pos he, he, List.append_nil]; exact h
  · rw [if_neg he]
    obtain ⟨f1, f2, f3, f4⟩ := pays_frame crc he
    obtain ⟨e1, e2⟩ := cut_two crc s (encB crc l)
    have hr : pays crc (restB s ++ encB crc l) = [l] ∧ restB (restB s ++ encB crc l) = [126] := by
      rw [h.2]
      by_cases hw : want = []
      · rw [if_pos hw]; exact ⟨f1, f2⟩
      · rw [if_neg hw]; exact ⟨f3, f4⟩
    unfold Back
    rw [e1, e2, h.1, hr.1, hr.2, if_neg (by simp)]
    exact ⟨rfl, rfl⟩
/-! ### frames found in a stream -/
inductive Chain (s : List UInt8) : Nat → List (List UInt8) → Prop
  | nil (at_ : Nat) : Chain s at_ []
  | cons (at_ q : Nat) (p : List UInt8) (ps : List (List UInt8)) : at_ ≤ q → encB crc p ≠ [] → q + (encB crc p).length ≤ s.length → (s.drop q).take (encB crc p).length = encB crc p → Chain s (q + (encB crc p).length - 1) ps → Chain s at_ (p :: ps)
theorem free_or (t : List UInt8) : 126 ∉ t ∨ ∃ a b, 126 ∉ a ∧ t = a ++ 126 :: b := by
  induction t with
  | nil => left; simp
  | cons c t ih =>
    by_cases hc : c = 126
    · right; exact ⟨[], t, by simp, by rw [hc]; rfl⟩
    · rcases ih with h | ⟨a, b, h1, h2⟩
      · left; intro h'; rcases List.mem_cons.1 h' with h'' | h''
        · exact hc h''.symm
        · exact h h''
      · right
        refine ⟨c :: a, b, ?_, by rw [h2]; rfl⟩
        intro h'
        rcases List.mem_cons.1 h' with h'' | h''
        · exact hc h''.symm
        · exact h1 h''
end
end Go.Proofs.YtdgejkiackeieaaDoor.Fr
end
section
set_option linter.unusedVariables false
set_option linter.unusedSimpArgs false
/- Plain lemmas on strings, their bytes, and numbers made into strings. -/
set_option linter.unusedVariables false
namespace Go.Proofs.YtdgejkiackeieaaDoor
open Go.RowKit Go.Proofs.YtdgejkiackeieaaDoorW.PrintWords
theorem size_len (s : ByteArray) : s.data.toList.length = s.size := Array.length_toList
theorem data_append (a b : ByteArray) : (a ++ b).data.toList = a.data.toList ++ b.data.toList := Go.Joins.data_append a b
theorem size_nums (l : List Int) : (strOfNums l).size = l.length := by
  rw [← size_len]; simp [strOfNums]
theorem size_append (a b : ByteArray) : (a ++ b).size = a.size + b.size := ByteArray.size_append
end Go.Proofs.YtdgejkiackeieaaDoor
end
section
set_option linter.unusedVariables false
set_option linter.unusedSimpArgs false
/- Layer 23: body, escaped, Encode, payload. -/
set_option linter.unusedVariables false
set_option linter.unusedSimpArgs false
namespace Go.Proofs.YtdgejkiackeieaaDoor.Fr
open Go.RowKit Go.Proofs.YtdgejkiackeieaaDoor Go.Proofs.YtdgejkiackeieaaDoor.Wr Go.Proofs.YtdgejkiackeieaaDoorW.PrintWords Go.Proofs.YtdgejkiackeieaaDoorW.PrintMore Go.Proofs.YtdgejkiackeieaaDoorW.PrintLast
/-- The checksum of a list of bytes. -/
def crcF (l : List UInt8) : Nat := crcN (l.map UInt8.toNat)
theorem crcF_lt (l : List UInt8) : crcF l < 65536 := crcN_lt _ (by intro c hc; obtain ⟨x, _, rfl⟩ := List.mem_map.1 hc; exact x.toNat_lt)
theorem crc_any (s : ByteArray) (w : World) (hs : s.size ≤ 1000000) : Calls Tryd.prog 29 #[.string s] w fun e w' => e = .returned (.int .i64 (crcF s.data.toList : Int)) ∧ Drawn0 w w' :=
  digest_Crc.calls s _ w (by unfold digest_Crc.f; rw [if_pos hs]; rfl)
set_option maxRecDepth 100000 in
theorem escaped_any (s : ByteArray) (w : World) (hM : MaxW w) (hs : s.size ≤ 1000000) : Calls Tryd.prog 104 #[.string s] w fun e w' => e = .returned (.string (mkB (escB s.data.toList))) ∧ Below w.heap.size w w' := by
  have HM := Lib.hid hM
  clear hM
  obtain ⟨R, hR⟩ : ∃ R, mkB (escB s.data.toList) = R := ⟨_, rfl⟩
  rw [hR]
  rw [← esc_two] at hR
  obtain ⟨Q, hQ⟩ : ∃ Q, mkB (Lib.replaceAll s.data.toList [125] [125, 93]) = Q := ⟨_, rfl⟩
  have hQz : Q.size ≤ 2000000 := by
    rw [← hQ, mkB_size, replaceAll_one]
    have : ∀ l : List UInt8, (l.flatMap fun b => if b = 125 then [125, 93] else [b]).length ≤ 2 * l.length := by
      intro l
      induction l with
      | nil => simp
      | cons c l ih =>
        rw [List.flatMap_cons, List.length_append, List.length_cons]
        have : (if c = 125 then [125, 93] else [c] : List UInt8).length ≤ 2 := by split <;> simp
        omega
    have := this s.data.toList
    rw [len_size] at this; omega
  have hR2 : mkB (Lib.replaceAll Q.data.toList [126] [125, 94]) = R := by rw [← hQ]; exact hR
  have HR := Lib.hid hR2; have HQ := Lib.hid hQ
  clear hR hR2 hQ
  go_enter Tryd.func104, Tryd.ntmps104
  go_wp2_with fail
  refine (Repl_any s ⟨#[125]⟩ ⟨#[125, 93]⟩ w HM.out (by omega) (by decide) (by decide)).mono ?_
  rw [show mkB (Lib.replaceAll s.data.toList (ByteArray.mk #[125]).data.toList (ByteArray.mk #[125, 93]).data.toList) = Q from HQ.out]
  rintro e w1 ⟨rfl, b1⟩
  have B1 := Lib.hid b1; clear b1
  go_wp2_with fail
  refine (Repl_any Q ⟨#[126]⟩ ⟨#[125, 94]⟩ w1 (HM.out.below B1.out) (by omega) (by decide) (by decide)).mono ?_
  rw [show mkB (Lib.replaceAll Q.data.toList (ByteArray.mk #[126]).data.toList (ByteArray.mk #[125, 94]).data.toList) = R from HR.out]
  rintro e w2 ⟨rfl, b2⟩
  have B2 := Lib.hid (B1.out.trans (b2.mono B1.out.size)); clear b2
  go_wp2
  go_ret
  exact ⟨rfl, B2.out⟩
theorem bytes_two (w : World) (x y : Int) : ReadsInt (w.alloc (Obj.cells #[Value.int .u8 x, Value.int .u8 y] 5)) .u8 (some ⟨w.heap.size, 0, none⟩) 2 [x, y] := by
  have hb := heap_alloc_new w (Obj.cells #[Value.int .u8 x, Value.int .u8 y] 5)
  refine ⟨rfl, by decide, fun _ => ⟨_, rfl, fun j hj => ?_⟩⟩
  rw [add_plain]
  have h2 : j = 0 ∨ j = 1 := by omega
  rcases h2 with rfl | rfl
  · exact (blk_cell hb 0).trans rfl
  · exact (blk_cell hb 1).trans rfl
set_option maxRecDepth 100000 in
theorem body_any (s : ByteArray) (w : World) (hs : s.size ≤ 1000000) : Calls Tryd.prog 105 #[.string s] w fun e w' => e = .returned (.string (mkB (bodyB crcF s.data.toList))) ∧ Below w.heap.size w w' := by
  have hlt := crcF_lt s.data.toList
  obtain ⟨R, hR⟩ : ∃ R, mkB (bodyB crcF s.data.toList) = R := ⟨_, rfl⟩
  rw [hR]
  have HR := Lib.hid hR
  obtain ⟨n, hn⟩ : ∃ n, crcF s.data.toList = n := ⟨_, rfl⟩
  have HN := Lib.hid hn
  rw [hn] at hlt
  clear hR hn
  go_enter Tryd.func105, Tryd.ntmps105
  go_wp2_with fail
  refine (crc_any s w hs).mono ?_
  rw [HN.out]
  rintro e w1 ⟨rfl, b1⟩
  have B1 := Lib.hid b1.below; clear b1
  go_wp2_with fail
  have hcv := string_of_reads (P := Tryd.prog) (src := 30) (dst := 9) (c := 2) Tryd.underlying30 Tryd.underlying5 Tryd.underlying9 (bytes_two w1 ((n : Int) % 256) ((n : Int) / 256))
  obtain ⟨C, hC⟩ : ∃ C, strOfNums [(n : Int) % 256, (n : Int) / 256] = C := ⟨_, rfl⟩
  rw [hC] at hcv
  have hCs : C.size = 2 := by rw [← hC]; exact size_nums _
  have hsum : s ++ C = R := by
    rw [← HR.out, ← hC]
    have e : strOfNums [(n : Int) % 256, (n : Int) / 256] = mkB (crcB crcF s.data.toList) := by
      rw [← str_uh]
      congr 1
      unfold crcB uh
      rw [HN.out]
      simp only [List.map_cons, List.map_nil, UInt8.toNat_ofNat', Nat.reducePow]
      congr 1
      · omega
      · congr 1; omega
    rw [e]
    unfold bodyB
    rw [← mkB_append]
  have hz : (s.size : Int) + (C.size : Int) ≤ 9223372036854775807 := by omega
  have HS := Lib.hid hsum
  have HB := Lib.hid (B1.out.trans (((Below.refl _ w1).alloc (Nat.le_refl _) (Obj.cells #[Value.int .u8 ((n : Int) % 256), Value.int .u8 ((n : Int) / 256)] 5)).mono B1.out.size))
  clear hsum hC hCs HN
  rw [hcv]
  clear hcv
  go_wp2
  go_ret
  exact ⟨ret_s' HS.out, HB.out⟩
/-- The frame of a payload, as the program writes it. -/
theorem Encode_any (s : ByteArray) (w : World) (hM : MaxW w) (hs : s.size ≤ 400000) : Calls Tryd.prog 44 #[.string s] w fun e w' => e = .returned (.string (mkB (encB crcF s.data.toList))) ∧ Below w.heap.size w w' := by
  have HM := Lib.hid hM
  clear hM
  obtain ⟨Q, hQ⟩ : ∃ Q, mkB (bodyB crcF s.data.toList) = Q := ⟨_, rfl⟩
  have hQz : Q.size ≤ 400002 := by rw [← hQ, mkB_size, bodyB_length, len_size]; omega
  obtain ⟨F, hF⟩ : ∃ F, mkB (frB crcF s.data.toList) = F := ⟨_, rfl⟩
  have hF2 : mkB (escB Q.data.toList) = F := by rw [← hQ]; exact hF
  have HQ := Lib.hid hQ; have HF := Lib.hid hF2
  by_cases hl : (frB crcF s.data.toList).length ≤ 2048
  · have hR : (⟨#[126]⟩ : ByteArray) ++ F ++ (⟨#[126]⟩ : ByteArray) = mkB (encB crcF s.data.toList) := by
      rw [encB_pos crcF hl, ← hF]; show mkB [126] ++ mkB (frB crcF s.data.toList) ++ mkB [126] = _; rw [mkB_append, mkB_append]; rfl
    have hFz : ¬ (2048 : Int) < (F.size : Int) := by rw [← hF, mkB_size]; omega
    obtain ⟨R, hR'⟩ : ∃ R, mkB (encB crcF s.data.toList) = R := ⟨_, rfl⟩
    rw [hR'] at hR ⊢
    have HR := Lib.hid hR
    clear hR hR' hF hF2 hQ hl
    go_enter Tryd.func44, Tryd.ntmps44
    go_wp2_with fail
    refine (body_any s w (by omega)).mono ?_
    rw [HQ.out]
    rintro e w1 ⟨rfl, b1⟩
    have B1 := Lib.hid b1; clear b1
    go_wp2_with fail
    refine (escaped_any Q w1 (HM.out.below B1.out) (by omega)).mono ?_
    rw [HF.out]
    rintro e w2 ⟨rfl, b2⟩
    have B2 := Lib.hid (B1.out.trans (b2.mono B1.out.size)); clear b2
    go_wp2
    go_ret
    exact ⟨ret_s' HR.out, B2.out⟩
  · have hFz : (2048 : Int) < (F.size : Int) := by rw [← hF, mkB_size]; omega
    rw [encB_neg crcF hl]
    clear hF hF2 hQ hl
    go_enter Tryd.func44, Tryd.ntmps44
    go_wp2_with fail
    refine (body_any s w (by omega)).mono ?_
    rw [HQ.out]
    rintro e w1 ⟨rfl, b1⟩
    have B1 := Lib.hid b1; clear b1
    go_wp2_with fail
    refine (escaped_any Q w1 (HM.out.below B1.out) (by omega)).mono ?_
    rw [HF.out]
    rintro e w2 ⟨rfl, b2⟩
    have B2 := Lib.hid (B1.out.trans (b2.mono B1.out.size)); clear b2
    go_wp2
    go_ret
    exact ⟨rfl, B2.out⟩
/-- What payload answers. -/
def payV (o : Option (List UInt8)) : Value := match o with
  | some p => .tuple #[.string (mkB p), .bool true]
  | none => .tuple #[.string ⟨#[]⟩, .bool false]
end Go.Proofs.YtdgejkiackeieaaDoor.Fr
end
section
set_option linter.unusedVariables false
set_option linter.unusedSimpArgs false
/- Layer 23: what a stretch contains. -/
set_option linter.unusedVariables false
set_option linter.unusedSimpArgs false
namespace Go.Proofs.YtdgejkiackeieaaDoor.Fr
open Go.RowKit Go.Proofs.YtdgejkiackeieaaDoor Go.Proofs.YtdgejkiackeieaaDoor.Wr Go.Proofs.YtdgejkiackeieaaDoorW.PrintWords Go.Proofs.YtdgejkiackeieaaDoorW.PrintMore Go.Proofs.YtdgejkiackeieaaDoorW.PrintLast
theorem extract_pre (s : ByteArray) (k : Nat) : s.extract 0 k = mkB (s.data.toList.take k) := by
  apply ext_
  rw [ByteArray.data_extract, Array.toList_extract]
  simp [mkB]
theorem neq_l {x y : ByteArray} (h : ¬ x.data.toList = y.data.toList) : (x.toList == y.toList) = false := by
  rw [ByteArray.toList_eq, ByteArray.toList_eq]; exact beq_eq_false_iff_ne.2 h
theorem eq_l {x y : ByteArray} (h : x.data.toList = y.data.toList) : (x.toList == y.toList) = true := by
  rw [ByteArray.toList_eq, ByteArray.toList_eq, h]; simp
set_option maxHeartbeats 4000000 in
set_option maxRecDepth 100000 in
theorem payload_any (s : ByteArray) (w : World) (hM : MaxW w) : Calls Tryd.prog 107 #[.string s] w fun e w' => e = .returned (payV (payB crcF s.data.toList)) ∧ Below w.heap.size w w' := by
  have HM := Lib.hid hM
  clear hM
  by_cases h1 : s.size ≤ 2048
  · have i1 : ¬ (2048 : Int) < (s.size : Int) := by omega
    obtain ⟨Q, hQ⟩ : ∃ Q, mkB (Lib.replaceAll s.data.toList [125, 94] [126]) = Q := ⟨_, rfl⟩
    have hQz : Q.size ≤ 2048 := by
      rw [← hQ, mkB_size, replaceAll_scan _ _ _ (by simp)]
      exact Nat.le_trans (scan_length [125, 94] [126] (by simp) (by simp) _ s.data.toList) (by rw [len_size]; exact h1)
    obtain ⟨U, hU⟩ : ∃ U, mkB (unescB s.data.toList) = U := ⟨_, rfl⟩
    have hU2 : mkB (Lib.replaceAll Q.data.toList [125, 93] [125]) = U := by rw [← hU, ← hQ]; rfl
    have hUz : U.size ≤ 2048 := by rw [← hU, mkB_size]; have := unesc_length s.data.toList; rw [len_size] at this; omega
    have hUl : U.data.toList = unescB s.data.toList := by rw [← hU]
    have hpe : payB crcF s.data.toList = if 2 ≤ U.size ∧ escB U.data.toList = s.data.toList ∧ bodyB crcF (U.data.toList.take (U.size - 2)) = U.data.toList then some (U.data.toList.take (U.size - 2)) else none := by
      unfold payB
      rw [if_pos (by rw [len_size]; exact h1), ← hUl, len_size]
    rw [hpe]
    have HQ := Lib.hid hQ; have HU := Lib.hid hU2
    clear hQ hU hU2 hUl hpe
    by_cases h2 : 2 ≤ U.size
    · have i2 : ¬ (U.size : Int) < 2 := by omega
      have i2d : decide ((U.size : Int) < 2) = false := decide_eq_false i2
      obtain ⟨E, hE⟩ : ∃ E, mkB (escB U.data.toList) = E := ⟨_, rfl⟩
      have hEl : E.data.toList = escB U.data.toList := by rw [← hE]
      have HE := Lib.hid hE
      by_cases h3 : escB U.data.toList = s.data.toList
      · have i3 : (E.toList == s.toList) = true := eq_l (hEl.trans h3)
        have i3' : E.toList = s.toList := by simpa using i3
        obtain ⟨P, hP⟩ : ∃ P, U.extract 0 (U.size - 2) = P := ⟨_, rfl⟩
        have hPl : P.data.toList = U.data.toList.take (U.size - 2) := by rw [← hP, extract_pre]
        have hPz : P.size ≤ 2048 := by rw [← len_size, hPl, List.length_take, len_size]; omega
        obtain ⟨Y, hY⟩ : ∃ Y, mkB (bodyB crcF P.data.toList) = Y := ⟨_, rfl⟩
        have hYl : Y.data.toList = bodyB crcF (U.data.toList.take (U.size - 2)) := by rw [← hY, ← hPl]
        have hk : (U.size : Int) - 2 = ((U.size - 2 : Nat) : Int) := by omega
        have k0 : (0 : Int) ≤ (U.size : Int) - 2 := by omega
        have kt : ((U.size : Int) - 2).toNat = U.size - 2 := by omega
        have HY := Lib.hid hY; have HP := Lib.hid hP
        by_cases h4 : bodyB crcF (U.data.toList.take (U.size - 2)) = U.data.toList
        · have i4 : (Y.toList == U.toList) = true := eq_l (hYl.trans h4)
          have i4' : Y.toList = U.toList := by simpa using i4
          have hR : mkB (U.data.toList.take (U.size - 2)) = P := by rw [← hPl]
          rw [if_pos ⟨h2, h3, h4⟩]
          unfold payV
          simp only
          rw [hR]
          clear hE hEl hPl hY hYl hP h3 h4 hR
          go_enter Tryd.func107, Tryd.ntmps107
          go_wp2_with fail
          refine (Repl_any s ⟨#[125, 94]⟩ ⟨#[126]⟩ w HM.out (by omega) (by decide) (by decide)).mono ?_
          rw [show mkB (Lib.replaceAll s.data.toList (ByteArray.mk #[125, 94]).data.toList (ByteArray.mk #[126]).data.toList) = Q from HQ.out]
          rintro e w1 ⟨rfl, b1⟩
          have B1 := Lib.hid b1; clear b1
          go_wp2_with fail
          refine (Repl_any Q ⟨#[125, 93]⟩ ⟨#[125]⟩ w1 (HM.out.below B1.out) (by omega) (by decide) (by decide)).mono ?_
          rw [show mkB (Lib.replaceAll Q.data.toList (ByteArray.mk #[125, 93]).data.toList (ByteArray.mk #[125]).data.toList) = U from HU.out]
          rintro e w2 ⟨rfl, b2⟩
          have B2 := Lib.hid (B1.out.trans (b2.mono B1.out.size)); clear b2
          go_wp2_with fail
          refine (escaped_any U w2 (HM.out.below B2.out) (by omega)).mono ?_
          rw [HE.out]
          rintro e w3 ⟨rfl, b3⟩
          have B3 := Lib.hid (B2.out.trans (b3.mono B2.out.size)); clear b3
          go_wp2_with fail
          rw [HP.out]
          refine (body_any P w3 (by omega)).mono ?_
          rw [HY.out]
          rintro e w4 ⟨rfl, b4⟩
          have B4 := Lib.hid (B3.out.trans (b4.mono B3.out.size)); clear b4
          have hPx := HP.out
          go_wp2
          go_ret2
          exact ⟨rfl, B4.out⟩
        · have i4 : (Y.toList == U.toList) = false := neq_l (by rw [hYl]; exact h4)
          have i4' : ¬ Y.toList = U.toList := by simpa using i4
          rw [if_neg (fun h => h4 h.2.2)]
          unfold payV
          simp only
          clear hE hEl hPl hY hYl hP h3 h4
          go_enter Tryd.func107, Tryd.ntmps107
          go_wp2_with fail
          refine (Repl_any s ⟨#[125, 94]⟩ ⟨#[126]⟩ w HM.out (by omega) (by decide) (by decide)).mono ?_
          rw [show mkB (Lib.replaceAll s.data.toList (ByteArray.mk #[125, 94]).data.toList (ByteArray.mk #[126]).data.toList) = Q from HQ.out]
          rintro e w1 ⟨rfl, b1⟩
          have B1 := Lib.hid b1; clear b1
          go_wp2_with fail
          refine (Repl_any Q ⟨#[125, 93]⟩ ⟨#[125]⟩ w1 (HM.out.below B1.out) (by omega) (by decide) (by decide)).mono ?_
          rw [show mkB (Lib.replaceAll Q.data.toList (ByteArray.mk #[125, 93]).data.toList (ByteArray.mk #[125]).data.toList) = U from HU.out]
          rintro e w2 ⟨rfl, b2⟩
          have B2 := Lib.hid (B1.out.trans (b2.mono B1.out.size)); clear b2
          go_wp2_with fail
          refine (escaped_any U w2 (HM.out.below B2.out) (by omega)).mono ?_
          rw [HE.out]
          rintro e w3 ⟨rfl, b3⟩
          have B3 := Lib.hid (B2.out.trans (b3.mono B2.out.size)); clear b3
          go_wp2_with fail
          rw [HP.out]
          refine (body_any P w3 (by omega)).mono ?_
          rw [HY.out]
          rintro e w4 ⟨rfl, b4⟩
          have B4 := Lib.hid (B3.out.trans (b4.mono B3.out.size)); clear b4
          have hPx := HP.out
          go_wp2
          go_ret2
          exact ⟨rfl, B4.out⟩
      · have i3 : (E.toList == s.toList) = false := neq_l (by rw [hEl]; exact h3)
        have i3' : ¬ E.toList = s.toList := by simpa using i3
        rw [if_neg (fun h => h3 h.2.1)]
        unfold payV
        simp only
        clear hE hEl h3
        go_enter Tryd.func107, Tryd.ntmps107
        go_wp2_with fail
        refine (Repl_any s ⟨#[125, 94]⟩ ⟨#[126]⟩ w HM.out (by omega) (by decide) (by decide)).mono ?_
        rw [show mkB (Lib.replaceAll s.data.toList (ByteArray.mk #[125, 94]).data.toList (ByteArray.mk #[126]).data.toList) = Q from HQ.out]
        rintro e w1 ⟨rfl, b1⟩
        have B1 := Lib.hid b1; clear b1
        go_wp2_with fail
        refine (Repl_any Q ⟨#[125, 93]⟩ ⟨#[125]⟩ w1 (HM.out.below B1.out) (by omega) (by decide) (by decide)).mono ?_
        rw [show mkB (Lib.replaceAll Q.data.toList (ByteArray.mk #[125, 93]).data.toList (ByteArray.mk #[125]).data.toList) = U from HU.out]
        rintro e w2 ⟨rfl, b2⟩
        have B2 := Lib.hid (B1.out.trans (b2.mono B1.out.size)); clear b2
        go_wp2_with fail
        refine (escaped_any U w2 (HM.out.below B2.out) (by omega)).mono ?_
        rw [HE.out]
        rintro e w3 ⟨rfl, b3⟩
        have B3 := Lib.hid (B2.out.trans (b3.mono B2.out.size)); clear b3
        go_wp2
        go_ret2
        exact ⟨rfl, B3.out⟩
    · have i2 : (U.size : Int) < 2 := by omega
      have i2d : decide ((U.size : Int) < 2) = true := decide_eq_true i2
      rw [if_neg (fun h => h2 h.1)]
      unfold payV
      simp only
      go_enter Tryd.func107, Tryd.ntmps107
      go_wp2_with fail
      refine (Repl_any s ⟨#[125, 94]⟩ ⟨#[126]⟩ w HM.out (by omega) (by decide) (by decide)).mono ?_
      rw [show mkB (Lib.replaceAll s.data.toList (ByteArray.mk #[125, 94]).data.toList (ByteArray.mk #[126]).data.toList) = Q from HQ.out]
      rintro e w1 ⟨rfl, b1⟩
      have B1 := Lib.hid b1; clear b1
      go_wp2_with fail
      refine (Repl_any Q ⟨#[125, 93]⟩ ⟨#[125]⟩ w1 (HM.out.below B1.out) (by omega) (by decide) (by decide)).mono ?_
      rw [show mkB (Lib.replaceAll Q.data.toList (ByteArray.mk #[125, 93]).data.toList (ByteArray.mk #[125]).data.toList) = U from HU.out]
      rintro e w2 ⟨rfl, b2⟩
      have B2 := Lib.hid (B1.out.trans (b2.mono B1.out.size)); clear b2
      go_wp2
      go_ret2
      exact ⟨rfl, B2.out⟩
  · have i1 : (2048 : Int) < (s.size : Int) := by omega
    rw [payB_long crcF (by rw [len_size]; omega)]
    unfold payV
    simp only
    go_enter Tryd.func107, Tryd.ntmps107
    go_wp2
    go_ret2
    exact ⟨rfl, Below.refl _ _⟩
end Go.Proofs.YtdgejkiackeieaaDoor.Fr
end
section
set_option linter.unusedVariables false
set_option linter.unusedSimpArgs false
/- Layer 23: how a stream falls into stretches, as the library's Cut and LastIndex find them. No program in sight. -/
set_option linter.unusedVariables false
set_option linter.unusedSimpArgs false
namespace Go.Proofs.YtdgejkiackeieaaDoor.Fr
open Go.Proofs.YtdgejkiackeieaaDoor
theorem index_free {a : List UInt8} (h : 126 ∉ a) : Lib.index a [126] = -1 := by
  induction a with
  | nil => rfl
  | cons c a ih =>
    have hc : ¬ (126 : UInt8) = c := fun e => h (by rw [e]; exact List.mem_cons_self ..)
    have := ih (fun e => h (List.mem_cons_of_mem _ e))
    simp [Lib.index, this, List.isPrefixOf, hc]
theorem index_app {a : List UInt8} (h : 126 ∉ a) (b : List UInt8) : Lib.index (a ++ 126 :: b) [126] = (a.length : Int) := by
  induction a with
  | nil => simp [Lib.index, List.isPrefixOf]
  | cons c a ih =>
    have hc : ¬ (126 : UInt8) = c := fun e => h (by rw [e]; exact List.mem_cons_self ..)
    have := ih (fun e => h (List.mem_cons_of_mem _ e))
    have h2 : ¬ ((a.length : Int) = -1) := by omega
    simp [Lib.index, this, List.isPrefixOf, hc, h2]
theorem cut_free {a : List UInt8} (h : 126 ∉ a) : Lib.cut a [126] = (a, [], false) := by
  unfold Lib.cut
  rw [index_free h, if_neg (by decide)]
theorem cut_app {a : List UInt8} (h : 126 ∉ a) (b : List UInt8) : Lib.cut (a ++ 126 :: b) [126] = (a, b, true) := by
  unfold Lib.cut
  rw [index_app h b, if_pos (by omega), Int.toNat_natCast]
  simp
theorem segs_free {a : List UInt8} (h : 126 ∉ a) : segs a = [] := by
  unfold segs; rw [parts_free a h]; rfl
theorem segs_one {a b : List UInt8} (ha : 126 ∉ a) (hb : 126 ∉ b) : segs (a ++ 126 :: b) = [] := by
  unfold segs; rw [parts_app a _ ha, parts_flag, parts_free b hb]; rfl
theorem segs_two {a b : List UInt8} (ha : 126 ∉ a) (hb : 126 ∉ b) (d : List UInt8) : segs (a ++ 126 :: (b ++ 126 :: d)) = b :: segs (126 :: d) := by
  unfold segs
  rw [parts_app a _ ha, parts_flag, parts_app b _ hb, parts_flag]
  simp only [List.append_nil, List.dropLast_cons_cons]
theorem segs_length (l : List UInt8) : (segs l).length ≤ l.length := by
  have h : ∀ l : List UInt8, (parts l).2.length ≤ l.length := by
    intro l
    induction l with
    | nil => exact Nat.le_refl _
    | cons c l ih =>
      by_cases hc : c = 126
      · subst hc; rw [parts_flag]; simp; exact ih
      · rw [parts_ne hc]; simp; omega
  unfold segs
  rw [List.length_dropLast]
  have := h l
  omega
theorem restOf_cons {x : List UInt8} {ys : List (List UInt8)} (h : ys ≠ []) : restOf (x :: ys) = restOf ys := by
  cases ys with
  | nil => exact absurd rfl h
  | cons y ys => exact restOf_append [x] y ys
theorem rest_last (p : List UInt8) {r : List UInt8} (h : 126 ∉ r) : restB (p ++ 126 :: r) = if r.length ≤ 2048 then 126 :: r else [] := by
  have key : ∀ p : List UInt8, (parts (p ++ 126 :: r)).2 ≠ [] ∧ restOf (parts (p ++ 126 :: r)).2 = restOf [r] := by
    intro p
    induction p with
    | nil => rw [List.nil_append, parts_flag, parts_free r h]; exact ⟨by simp, rfl⟩
    | cons c p ih =>
      by_cases hc : c = 126
      · subst hc; rw [List.cons_append, parts_flag]; exact ⟨by simp, (restOf_cons ih.1).trans ih.2⟩
      · rw [List.cons_append, parts_ne hc]; exact ih
  exact (key p).2
/-- The last flag of a stream that has one. -/
theorem last_or (t : List UInt8) : 126 ∉ t ∨ ∃ p r, 126 ∉ r ∧ t = p ++ 126 :: r := by
  induction t with
  | nil => left; simp
  | cons c t ih =>
    rcases ih with h | ⟨p, r, h1, h2⟩
    · by_cases hc : c = 126
      · right; exact ⟨[], t, h, by rw [hc]; rfl⟩
      · left
        intro h'
        rcases List.mem_cons.1 h' with h'' | h''
        · exact hc h''.symm
        · exact h h''
    · right; exact ⟨c :: p, r, h1, by rw [h2]; rfl⟩
theorem get_byte (s : ByteArray) (j : Nat) (h : j < s.size) : s.data[j]! = s.data.toList[j]'(by rw [Array.length_toList]; exact h) := by
  have h2 : j < s.data.size := h
  rw [getElem!_pos s.data j h2]
  simp
theorem lastIdx_free (s : ByteArray) (h : 126 ∉ s.data.toList) : Lib.lastIndexByte s 126 = -1 := by
  rcases Lib.lastIndexByte_spec s 126 with h1 | ⟨i, h1, h2, h3, h4⟩
  · exact h1.1
  · exfalso
    apply h
    have e : s.data[i]!.toNat = 126 := by omega
    rw [get_byte s i h1] at e
    have : s.data.toList[i]'(by rw [Array.length_toList]; exact h1) = 126 := UInt8.toNat_inj.1 e
    rw [← this]
    exact List.getElem_mem _
theorem lastIdx_app (s : ByteArray) {p r : List UInt8} (hr : 126 ∉ r) (h : s.data.toList = p ++ 126 :: r) : Lib.lastIndexByte s 126 = (p.length : Int) := by
  have hz : s.size = p.length + (r.length + 1) := by
    have := congrArg List.length h
    rw [Array.length_toList] at this
    simpa using this
  have hp : p.length < s.size := by omega
  have ep : s.data[p.length]!.toNat = 126 := by
    rw [get_byte s _ hp]
    simp [h]
  rcases Lib.lastIndexByte_spec s 126 with h1 | ⟨i, h1, h2, h3, h4⟩
  · exact absurd (by omega) (h1.2 p.length hp)
  · rw [h2]
    rcases Nat.lt_trichotomy i p.length with hi | hi | hi
    · exact absurd (by omega) (h4 p.length hi hp)
    · rw [hi]
    · exfalso
      apply hr
      have e : s.data[i]!.toNat = 126 := by omega
      rw [get_byte s i h1] at e
      have e2 : s.data.toList[i]'(by rw [Array.length_toList]; exact h1) = 126 := UInt8.toNat_inj.1 e
      have e3 : r[i - p.length - 1]'(by omega) = 126 := by
        rw [← e2]
        simp only [h]
        rw [List.getElem_append_right (by omega), List.getElem_cons]
        rw [dif_neg (by omega)]
      rw [← e3]
      exact List.getElem_mem _
end Go.Proofs.YtdgejkiackeieaaDoor.Fr
end
section
set_option linter.unusedVariables false
set_option linter.unusedSimpArgs false
/- The library's contracts of strings.Cut and strings.LastIndex at this program's numbers. -/
set_option linter.unusedVariables false
namespace Go.Proofs
open Go.Shelf
def Tryd.lays145_ren : Go.Shelf.Ren := ⟨fun | 145 => 137 | 220 => 148 | 219 => 153 | 217 => 125 | 225 => 156 | 224 => 157 | 267 => 158 | 266 => 141 | 314 => 159 | n => n, fun | 9 => 9 | 4 => 4 | 59 => 142 | 3 => 3 | 5 => 5 | 46 => 64 | 146 => 151 | 51 => 97 | n => n, fun | 1 => 4 | n => n⟩
theorem Tryd.lays145 : Go.Proofs.Lays.n145 Tryd.prog Tryd.lays145_ren := {
  mixed := by kernel_rfl
  f145 := Tryd.func137.trans (congrArg some (by kernel_rfl))
  f217 := Tryd.func125.trans (congrArg some (by kernel_rfl))
  f219 := Tryd.func153.trans (congrArg some (by kernel_rfl))
  f220 := Tryd.func148.trans (congrArg some (by kernel_rfl))
  f224 := Tryd.func157.trans (congrArg some (by kernel_rfl))
  f225 := Tryd.func156.trans (congrArg some (by kernel_rfl))
  f266 := Tryd.func141.trans (congrArg some (by kernel_rfl))
  f267 := Tryd.func158.trans (congrArg some (by kernel_rfl))
  f314 := Tryd.func159.trans (congrArg some (by kernel_rfl))
  t3 := Tryd.underlying3
  a3 := Tryd.isAgg3
  z3 := Tryd.sizeOf3
  v3 := Tryd.zeroValue3
  t4 := Tryd.underlying4
  a4 := Tryd.isAgg4
  z4 := Tryd.sizeOf4
  v4 := Tryd.zeroValue4
  t5 := Tryd.underlying5
  a5 := Tryd.isAgg5
  z5 := Tryd.sizeOf5
  v5 := Tryd.zeroValue5
  t9 := Tryd.underlying9
  a9 := Tryd.isAgg9
  z9 := Tryd.sizeOf9
  v9 := Tryd.zeroValue9
  t46 := Tryd.underlying64
  a46 := Tryd.isAgg64
  z46 := Tryd.sizeOf64
  v46 := Tryd.zeroValue64
  t51 := Tryd.underlying97
  a51 := Tryd.isAgg97
  z51 := Tryd.sizeOf97
  v51 := Tryd.zeroValue97
  t59 := Tryd.underlying142
  a59 := Tryd.isAgg142
  z59 := Tryd.sizeOf142
  v59 := Tryd.zeroValue142
  t146 := Tryd.underlying151
  a146 := Tryd.isAgg151
  z146 := Tryd.sizeOf151
  v146 := Tryd.zeroValue151
  g1 := by kernel_rfl }
open Go.RowKit Go.Lib in
theorem Tryd.strings_Cut (s sep : ByteArray) (m : Int) (w : World) (hs : s.size < 4294967281) (hm : w.cell? ⟨4, 0, none⟩ = some (.int .i64 m)) :
    Calls Tryd.prog 137 #[.string s, .string sep] w fun e w' => e = .returned (.tuple #[.string ⟨(Lib.cut s.data.toList sep.data.toList).1.toArray⟩, .string ⟨(Lib.cut s.data.toList sep.data.toList).2.1.toArray⟩, .bool (Lib.cut s.data.toList sep.data.toList).2.2]) ∧ ∃ n, w' = w.drewN n := Any.strings_Cut Tryd.lays145 s sep m w hs hm
def Tryd.lays148_ren : Go.Shelf.Ren := ⟨fun | 148 => 108 | 222 => 138 | 223 => 139 | 269 => 149 | n => n, fun | 9 => 9 | 3 => 3 | 4 => 4 | 5 => 5 | 146 => 151 | 51 => 97 | 46 => 64 | n => n, fun | n => n⟩
theorem Tryd.lays148 : Go.Proofs.Lays.n148 Tryd.prog Tryd.lays148_ren := {
  mixed := by kernel_rfl
  f148 := Tryd.func108.trans (congrArg some (by kernel_rfl))
  f222 := Tryd.func138.trans (congrArg some (by kernel_rfl))
  f223 := Tryd.func139.trans (congrArg some (by kernel_rfl))
  f269 := Tryd.func149.trans (congrArg some (by kernel_rfl))
  t3 := Tryd.underlying3
  a3 := Tryd.isAgg3
  z3 := Tryd.sizeOf3
  v3 := Tryd.zeroValue3
  t4 := Tryd.underlying4
  a4 := Tryd.isAgg4
  z4 := Tryd.sizeOf4
  v4 := Tryd.zeroValue4
  t5 := Tryd.underlying5
  a5 := Tryd.isAgg5
  z5 := Tryd.sizeOf5
  v5 := Tryd.zeroValue5
  t9 := Tryd.underlying9
  a9 := Tryd.isAgg9
  z9 := Tryd.sizeOf9
  v9 := Tryd.zeroValue9
  t46 := Tryd.underlying64
  a46 := Tryd.isAgg64
  z46 := Tryd.sizeOf64
  v46 := Tryd.zeroValue64
  t51 := Tryd.underlying97
  a51 := Tryd.isAgg97
  z51 := Tryd.sizeOf97
  v51 := Tryd.zeroValue97
  t146 := Tryd.underlying151
  a146 := Tryd.isAgg151
  z146 := Tryd.sizeOf151
  v146 := Tryd.zeroValue151 }
open Go.RowKit Go.Lib in
theorem Tryd.strings_LastIndex_one (s sub : ByteArray) (h1 : sub.size = 1) (hs : s.size < 4611686018427387904) (w : World) :
    Calls Tryd.prog 108 #[.string s, .string sub] w fun e w' => e = .returned (.int .i64 (Lib.lastIndexByte s ((sub[0]'(by omega)).toNat : Int))) ∧ w' = w := Any.strings_LastIndex_one Tryd.lays148 s sub h1 hs w
end Go.Proofs
end
section
set_option linter.unusedVariables false
set_option linter.unusedSimpArgs false
/- Layer 23: the iterator over the stretches of a stream, which keeps what is left in a variable of its own. -/
set_option linter.unusedVariables false
set_option linter.unusedSimpArgs false
namespace Go.Proofs.YtdgejkiackeieaaDoor.Fr
open Go.RowKit Go.Proofs.YtdgejkiackeieaaDoor Go.Proofs.YtdgejkiackeieaaDoor.Wr Go.Proofs.YtdgejkiackeieaaDoorW.PrintWords Go.Proofs.YtdgejkiackeieaaDoorW.PrintMore Go.Proofs.YtdgejkiackeieaaDoorW.PrintLast
attribute [local go_sem] Oper.semAt_some
/-- The iterator's variable. -/
def St (W : World) (b : Nat) (s : ByteArray) : Prop := W.heap[b]? = some (.cells #[.string s] 9 (0, 0))
theorem cut_any (s : ByteArray) (w : World) (hM : MaxW w) (hs : s.size ≤ 4000000) : Calls Tryd.prog 137 #[.string s, .string ⟨#[126]⟩] w fun e w' => e = .returned (.tuple #[.string (mkB (Lib.cut s.data.toList [126]).1), .string (mkB (Lib.cut s.data.toList [126]).2.1), .bool (Lib.cut s.data.toList [126]).2.2]) ∧ Below w.heap.size w w' := by
  obtain ⟨⟨m, hm⟩, h5⟩ := hM
  exact (Tryd.strings_Cut s ⟨#[126]⟩ m w (by omega) hm).mono fun e w' ⟨he, n, hw⟩ => ⟨he, by rw [hw]; exact pw_below_drewN (Below.refl _ _) n⟩
/-- What is left to go through, read off the world. -/
def leftOf (b : Nat) (W : World) : Nat := match W.cell? ⟨b, 0, none⟩ with
  | some (.string s) => s.size
  | _ => 0
theorem leftOf_eq {W : World} {b : Nat} {s : ByteArray} (h : St W b s) : leftOf b W = s.size := by
  unfold leftOf
  rw [show W.cell? ⟨b, 0, none⟩ = some (.string s) from (blk_cell h 0).trans rfl]
set_option maxRecDepth 100000 in
set_option maxHeartbeats 4000000 in
theorem stretches_in (n l b : Nat) (cur0 : ByteArray) (J : List (List UInt8) → World → Prop) (W : World) (hn : 1 ≤ n) (hz : cur0.size ≤ 4000000)
    (hJM : ∀ pre W, J pre W → MaxW W) (hJg : ∀ pre W W', J pre W → Below W.heap.size W W' → J pre W') (hJs : ∀ pre W v, J pre W → J pre (W.setCell ⟨b, 0, none⟩ v))
    (hY : ∀ pre x W1, J pre W1 → pre.length < cur0.size → YieldAt Fence.wide (n - 1) Tryd.prog l #[.string (mkB x)] W1 fun e W' => e = .returned (.bool true) ∧ J (pre ++ [x]) W' ∧ W'.heap[b]? = W1.heap[b]?)
    (hS : St W b cur0) (h0 : J [] W) :
    CallsIn Fence.wide n Tryd.prog 136 #[.func (.yield l) #[] #[], .pointer (some ⟨b, 0, none⟩)] W fun e W' => (∃ v, e = .returned v) ∧ J (segs cur0.data.toList) W' := by
  have HJM := Lib.hid hJM; have HJG := Lib.hid hJg; have HJS := Lib.hid hJs; have HY := Lib.hid hY; have HS := Lib.hid hS; have HJ := Lib.hid h0
  clear hJM hJg hJs hY hS h0
  refine callsIn_of_wp Tryd.func136 rfl trivial ?_ rfl
  simp only [Tryd.ntmps136, List.size_toArray, List.length_cons, List.length_nil, Nat.reduceAdd, Nat.reduceSub, Array.replicate_succ, Array.replicate_zero, List.push_toArray, List.append_toArray, List.nil_append, List.cons_append]
  gi_wp2
  gi_loopw [] (fun wr => ∃ (pre : List (List UInt8)) (cur : ByteArray), Hid (St wr b cur) ∧ Hid (J pre wr) ∧ Hid (segs cur0.data.toList = pre ++ segs cur.data.toList) ∧ pre.length + cur.size ≤ cur0.size) (fun wr => leftOf b wr)
  case atStart => exact ⟨[], cur0, HS, HJ, Lib.hid rfl, by simp⟩
  case round =>
    obtain ⟨pre, cur, hS, hJ, hE, hle⟩ := hrel
    have c0 : wr.cell? ⟨b, 0, none⟩ = some (.string cur) := (blk_cell hS.out 0).trans rfl
    rcases free_or cur.data.toList with hfr | ⟨a, b1, ha, hab⟩
    · have hcut := cut_free hfr
      have hseg := segs_free hfr
      have HC := Lib.hid hcut; have HSG := Lib.hid hseg
      clear hfr hcut hseg
      gi_wp2_with fail
      refine ⟨trivial, (callsIn_wide.2 (cut_any cur wr (HJM.out _ _ hJ.out) (by omega))).mono ?_⟩
      rw [HC.out]
      rintro e w1 ⟨rfl, k1⟩
      have hJ1 := HJG.out _ _ _ hJ.out k1
      have hend : J (segs cur0.data.toList) w1 := by rw [hE.out, HSG.out, List.append_nil]; exact hJ1
      have HEND := Lib.hid hend
      clear hJ1 hend k1
      gi_wp2
      refine bodyPost_ret (results_none rfl _ _ _) rfl ?_
      exact ⟨⟨_, rfl⟩, HEND.out⟩
    · have hcut := cut_app ha b1
      rw [← hab] at hcut
      obtain ⟨B1, hB1⟩ : ∃ B1, mkB b1 = B1 := ⟨_, rfl⟩
      have hB1l : B1.data.toList = b1 := by rw [← hB1]
      have hcz : cur.size = a.length + (b1.length + 1) := by
        have := congrArg List.length hab
        rw [len_size] at this
        simpa using this
      have hB1z : B1.size = b1.length := by rw [← hB1, mkB_size]
      have HC := Lib.hid hcut; have HAB := Lib.hid hab; have HA := Lib.hid ha
      clear hcut hab ha
      gi_wp2_with fail
      refine ⟨trivial, (callsIn_wide.2 (cut_any cur wr (HJM.out _ _ hJ.out) (by omega))).mono ?_⟩
      rw [HC.out]
      simp only
      rw [hB1]
      rintro e w1 ⟨rfl, k1⟩
      have hJ1 := Lib.hid (HJG.out _ _ _ hJ.out k1)
      have hS1 : Hid (St w1 b cur) := Lib.hid ((k1.block b (blk_lt hS.out)).trans hS.out)
      clear k1 c0
      rcases free_or b1 with hfr | ⟨s, d, hs, hsd⟩
      · have hcut := cut_free hfr
        rw [← hB1l] at hcut
        have hseg : segs cur.data.toList = [] := by rw [HAB.out]; exact segs_one HA.out hfr
        have HC2 := Lib.hid hcut; have HSG := Lib.hid hseg
        clear hfr hcut hseg hB1 hB1l
        gi_wp2_with fail
        refine ⟨trivial, (callsIn_wide.2 (cut_any B1 w1 (HJM.out _ _ hJ1.out) (by omega))).mono ?_⟩
        rw [HC2.out]
        rintro e w2 ⟨rfl, k2⟩
        have hJ2 := HJG.out _ _ _ hJ1.out k2
        have hend : J (segs cur0.data.toList) w2 := by rw [hE.out, HSG.out, List.append_nil]; exact hJ2
        have HEND := Lib.hid hend
        clear hJ2 hend k2
        gi_wp2
        refine ⟨fun _ h => (by cases h), ?_⟩
        gi_wp2
        refine bodyPost_ret (results_none rfl _ _ _) rfl ?_
        exact ⟨⟨_, rfl⟩, HEND.out⟩
      · have hcut := cut_app hs d
        rw [← hsd, ← hB1l] at hcut
        obtain ⟨X, hX⟩ : ∃ X, mkB s = X := ⟨_, rfl⟩
        have hXz : X.size = s.length := by rw [← hX, mkB_size]
        have hbz : b1.length = s.length + (d.length + 1) := by rw [hsd]; simp
        have hdrop : B1.extract X.size B1.size = mkB (126 :: d) := by
          rw [extract_drop, hB1l, hsd, hXz, List.drop_left]
        have hseg : segs cur.data.toList = s :: segs (126 :: d) := by rw [HAB.out, hsd]; exact segs_two HA.out hs d
        have HC2 := Lib.hid hcut; have HSG := Lib.hid hseg; have HDR := Lib.hid hdrop
        clear hcut hseg hdrop hs hsd hB1 hB1l
        gi_wp2_with fail
        refine ⟨trivial, (callsIn_wide.2 (cut_any B1 w1 (HJM.out _ _ hJ1.out) (by omega))).mono ?_⟩
        rw [HC2.out]
        simp only
        rw [hX]
        rintro e w2 ⟨rfl, k2⟩
        have hJ2 := Lib.hid (HJG.out _ _ _ hJ1.out k2)
        have hS2 : Hid (St w2 b cur) := Lib.hid ((k2.block b (blk_lt hS1.out)).trans hS1.out)
        clear k2
        obtain ⟨fn, tmps, assign, body, hy, hRR⟩ := HY.out pre s w2 hJ2.out (by omega)
        rw [hX] at hy
        have HX := Lib.hid hX
        clear hX
        gi_wp2
        refine hRR.mono ?_
        rintro e w3 ⟨rfl, hJ3, hk3⟩
        have hS3 : St w3 b cur := hk3.trans hS2.out
        have HJ3 := Lib.hid hJ3; have HS3 := Lib.hid hS3
        have c3 : w3.cell? ⟨b, 0, none⟩ = some (.string cur) := (blk_cell hS3 0).trans rfl
        have f3 := blk_frozen hS3 0
        have hd0 : (X.size : Int) ≤ (B1.size : Int) := by omega
        have hnew : (mkB (126 :: d)).size + 1 ≤ cur.size := by rw [mkB_size, List.length_cons]; omega
        have hlen : pre.length + 1 + (mkB (126 :: d)).size ≤ cur0.size := by omega
        have hS4 : St (w3.setCell ⟨b, 0, none⟩ (.string (mkB (126 :: d)))) b (mkB (126 :: d)) := blk_set hS3 0 _
        have hJ4 := HJS.out _ _ (.string (mkB (126 :: d))) HJ3.out
        have hE4 : segs cur0.data.toList = (pre ++ [s]) ++ segs (mkB (126 :: d)).data.toList := by rw [hE.out, HSG.out, List.append_assoc]; rfl
        have hm : leftOf b (w3.setCell ⟨b, 0, none⟩ (.string (mkB (126 :: d)))) < leftOf b wr := by rw [leftOf_eq hS4, leftOf_eq hS.out]; omega
        have HNEW := Lib.hid hnew; have HLEN := Lib.hid hlen; have HS4 := Lib.hid hS4; have HJ4 := Lib.hid hJ4; have HE4 := Lib.hid hE4; have HMS := Lib.hid hm
        clear hJ3 hS3 hk3 hy hnew hlen hS4 hJ4 hE4 hm hXz hbz hcz hB1z
        gi_wp2
        rw [HDR.out]
        exact ⟨⟨pre ++ [s], mkB (126 :: d), HS4, HJ4, HE4, by rw [List.length_append]; exact HLEN.out⟩, HMS.out⟩
end Go.Proofs.YtdgejkiackeieaaDoor.Fr
end
section
set_option linter.unusedVariables false
set_option linter.unusedSimpArgs false
/- Layer 23: a loop over an iterator that keeps a variable of its own: what the loop leaves, by an invariant that the iterator's writing of its variable does not touch. -/
set_option linter.unusedVariables false
set_option linter.unusedSimpArgs false
namespace Go.Proofs.YtdgejkiackeieaaDoor.Fr
open Go.RowKit Go.Proofs.YtdgejkiackeieaaDoor Go.Proofs.YtdgejkiackeieaaDoor.Wr Go.Proofs.YtdgejkiackeieaaDoorW.PrintWords Go.Proofs.YtdgejkiackeieaaDoorW.PrintMore Go.Proofs.YtdgejkiackeieaaDoorW.PrintLast
/-- What the loop keeps beside its invariant: the record of the loop, and the block of the rounds' deferred calls. -/
def Book (L D : Nat) (r : Loop) (W : World) : Prop := W.heap[L]? = some (.loop r) ∧ W.heap[D]? = some (.deferred (some []))
theorem Book.below {L D : Nat} {r : Loop} {W W' : World} (h : Book L D r W) (hb : Below W.heap.size W W') : Book L D r W' :=
  ⟨(hb.block L (Array.getElem?_eq_some_iff.1 h.1).1).trans h.1, (hb.block D (Array.getElem?_eq_some_iff.1 h.2).1).trans h.2⟩
theorem Book.set {L D b : Nat} {r : Loop} {W : World} (h : Book L D r W) (h1 : L ≠ b) (h2 : D ≠ b) (v : Value) : Book L D r (W.setCell ⟨b, 0, none⟩ v) :=
  ⟨(Below.heap_setCell W ⟨b, 0, none⟩ v L h1).trans h.1, (Below.heap_setCell W ⟨b, 0, none⟩ v D h2).trans h.2⟩
theorem Book.keeps {L D : Nat} {r : Loop} {W W' : World} (h : Book L D r W) (hk : KeepsOthers W W') : Book L D r W' := ⟨hk.same _ _ h.1 rfl, hk.same _ _ h.2 rfl⟩
theorem Book.put {L D : Nat} {r : Loop} {W : World} (h : Book L D r W) (hne : D ≠ L) (r' : Loop) : Book L D r' (W.putObj L (.loop r')) :=
  ⟨World.putObj_heap_same (Array.getElem?_eq_some_iff.1 h.1).1, (World.putObj_heap_other hne).trans h.2⟩
/-- The law. -/
theorem range_over {α : Type} {P : Program} {n : Nat} {g : Operand} {ps : Array Tmp} {assign body : Code} {Q : Exit → Act → World → Prop} {a : Act} {w : World} {gf : Nat} {lb : Array Value}
    (h1 : 1 ≤ n) (hg : a.eval g = .func (.func gf) #[] lb) (eg : ∀ args w, (callFunc gf args).run P w = .ok (.enter gf args) w) (encs : α → Array Value) (hps : ∀ x, (encs x).size = ps.size) (b : Nat) (hb : b < w.heap.size) (N : Nat) (xs : List α)
    (I : List α → World → Prop) (hIb : ∀ pre W W', I pre W → Below W.heap.size W W' → I pre W') (hIs : ∀ pre W v, I pre W → I pre (W.setCell ⟨b, 0, none⟩ v))
    (hIp : ∀ pre W l o o', I pre W → w.heap.size ≤ l → W.heap[l]? = some o → o.isCells = false → I pre (W.putObj l o'))
    (hseq : ∀ (l : Nat) (J : List α → World → Prop) (W : World), (∀ pre W, J pre W → I pre W) → (∀ pre W W', J pre W → Below W.heap.size W W' → J pre W') → (∀ pre W v, J pre W → J pre (W.setCell ⟨b, 0, none⟩ v)) →
      (∀ pre x W1, J pre W1 → pre.length < N → YieldAt Fence.wide (n - 1 - 1) P l (encs x) W1 fun e W' => e = .returned (.bool true) ∧ J (pre ++ [x]) W' ∧ W'.heap[b]? = W1.heap[b]?) →
      W.heap[b]? = w.heap[b]? → J [] W → CallsIn Fence.wide (n - 1) P gf (#[.func (.yield l) #[] #[]] ++ lb) W fun e W' => (∃ v, e = .returned v) ∧ J xs W')
    (h0 : I [] w) (a₁ : α → Act)
    (hassign : ∀ (l : Nat) (x : α) (W : World) (K : Act → World → Prop), K (a₁ x) W →
      assign.wpIn (Fence.wide.inRound l) (n - 1 - 1) P (Exit.then K (fun _ _ _ => False)) { tmps := (ps.zip (encs x)).foldl (fun t (p, v) => t.setIfInBounds p v) a.tmps, defers := [] } W)
    (hbody : ∀ (l : Nat) (pre : List α) (x : α) (W : World), I pre W → pre.length < N → body.wpIn (Fence.wide.inRound l) (n - 1 - 1) P (fun e _ W' => e = .normal ∧ KeepsOthers W W' ∧ W'.heap[b]? = W.heap[b]? ∧ I (pre ++ [x]) W') (a₁ x) W)
    (hdone : ∀ (D : Nat) (W : World), w.heap.size ≤ D → I xs W → W.heap[D]? = some (.deferred (some [])) → Q .normal { a with defers := { target := .collected D, args := #[] } :: a.defers } W) :
    (Code.rangeFunc g ps assign body).wpIn Fence.wide n P Q a w := by
  refine wpIn_rangeFunc fun fn hfn => ?_
  obtain ⟨D, hD⟩ : ∃ D, w.heap.size = D := ⟨_, rfl⟩
  obtain ⟨R, hR⟩ : ∃ R : LoopState → Loop, ∀ st, R st = { state := st, pending := none, fn := fn, tmps := a.tmps, params := ps, assign := assign, body := body, defers := D } := ⟨_, fun _ => rfl⟩
  obtain ⟨W1, hW1⟩ : ∃ W1, (w.alloc (.deferred (some []))).alloc (.loop (R .ready)) = W1 := ⟨_, rfl⟩
  have hB1 : Below w.heap.size w W1 := by rw [← hW1]; exact ((Below.refl _ w).alloc (Nat.le_refl _) _).alloc (by simp) _
  have hK1 : Book (D + 1) D (R .ready) W1 := by
    rw [← hW1, ← hD]
    refine ⟨?_, (((Below.refl _ (w.alloc _)).alloc (Nat.le_refl _) _).block w.heap.size (by simp)).trans (heap_alloc_new w _)⟩
    simpa using heap_alloc_new (w.alloc _) (Obj.loop (R .ready))
  have hne : D ≠ D + 1 := by omega
  have hbD : D ≠ b := by omega
  have hbL : D + 1 ≠ b := by omega
  refine ⟨D + 1, [{ target := .collected D, args := #[] }], W1, { target := .fn (.func gf) lb, args := #[.func (.yield (D + 1)) #[] #[]] }, W1, gf, #[.func (.yield (D + 1)) #[] #[]] ++ lb, W1, ?_, ?_, fun _ _ => trivial, ?_, fun _ => h1, ?_⟩
  · show (Instr.enterLoop fn a.tmps ps assign body none).run P w = _
    rw [run_enterLoop_outer, hD, ← hW1, hR]
  · simp only [resolve, hg]
    simp [go_sem]
  · simp [invoke, go_sem, eg]
  · refine (hseq (D + 1) (fun pre W => I pre W ∧ Book (D + 1) D (R .ready) W) W1 (fun _ _ h => h.1) (fun pre W W' h hb' => ⟨hIb pre W W' h.1 hb', h.2.below hb'⟩) (fun pre W v h => ⟨hIs pre W v h.1, h.2.set hbL hbD v⟩) ?_ (hB1.block b hb) ⟨hIb _ _ _ h0 hB1, hK1⟩).mono ?_
    · rintro pre x W ⟨hi, hk⟩ hlen
      have hy := run_yield (P := P) (args := encs x) hk.1 (by rw [hR]; exact hps x)
      rw [hR] at hy
      obtain ⟨W2, hW2⟩ : ∃ W2, W.putObj (D + 1) (.loop { R .ready with state := .busy }) = W2 := ⟨_, rfl⟩
      have hk2 : Book (D + 1) D { R .ready with state := .busy } W2 := by rw [← hW2]; exact hk.put hne _
      have hi2 : I pre W2 := by rw [← hW2]; exact hIp pre W (D + 1) _ _ hi (by omega) hk.1 rfl
      have hb2 : W2.heap[b]? = W.heap[b]? := by rw [← hW2]; exact World.putObj_heap_other (fun e => hbL e.symm)
      refine ⟨fn, _, assign, body, hy, roundIn_of_wpIn hfn (hassign _ x W _ ⟨W2, by rw [← hW2]; exact run_beginRound hk.1 (by rw [hR]), ?_⟩)⟩
      refine wpIn_mono (hbody _ pre x W2 hi2 hlen) ?_
      rintro e a3 W3 ⟨rfl, hk3, hb3, hi3⟩
      have hk4 := hk2.keeps hk3
      refine ⟨_, _, run_endRound (P := P) none hk4.1, ⟨rfl, ⟨hIp _ W3 (D + 1) _ _ hi3 (by omega) hk4.1 rfl, ?_⟩, ?_⟩⟩
      · have := hk4.put hne (R .ready)
        rw [show R .ready = { R .ready with state := if (none : Option Code).isNone then .ready else .done, pending := none } from by rw [hR]; rfl] at this
        rw [hR] at this ⊢
        exact this
      · exact ((World.putObj_heap_other (fun e => hbL e.symm)).trans hb3).trans hb2
    · rintro e W2 ⟨⟨v, rfl⟩, hi, hk⟩
      refine ⟨none, W2.putObj (D + 1) (.loop { R .ready with state := .exhausted }), ?_, ?_⟩
      · have := run_endLoop (P := P) hk.1 (by rw [hR]; simp)
        rw [hR] at this ⊢
        exact this
      · exact hdone D _ (by omega) (hIp _ W2 (D + 1) _ _ hi (by omega) hk.1 rfl) ((World.putObj_heap_other hne).trans hk.2)
end Go.Proofs.YtdgejkiackeieaaDoor.Fr
end
