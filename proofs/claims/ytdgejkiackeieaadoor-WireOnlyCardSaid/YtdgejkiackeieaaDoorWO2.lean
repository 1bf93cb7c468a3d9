/- Texts of this claim, joined: WireQ, WireR, WireT, Repl, ShR, ShA, Bld, WireX, RowX, WireU, WireV, WireY, WireZ, WireL, WLReads, WLOnly. -/
import Derived.Test.YtdgejkiackeieaaDoorWO1
import Derived.Lib.Replace
import Derived.Lib.ReplaceLaws
import Derived.Lib.CountLaws
import Derived.Shelf.Strings.Replace
import Derived.Test.YtdgejkiackeieaaDoorProg
import Derived.Shelf.Strings.BuilderK
import Derived.Shelf.Small.Strs
import Derived.WalkKit
import Derived.BigCall
import Derived.Outline
import Derived.Lib.Hide
import Derived.Test.YtdgejkiackeieaaDoorRows
import Derived.Test.YtdgejkiackeieaaDoorWSized
import Derived.HandedShaped
import Derived.Handed
import Derived.ProofKit
import Derived.OpenShut
import Derived.LaidMore
import Derived.Lay
import Derived.WalkLawsBesides
import Derived.Test.YtdgejkiackeieaaDoorWLast
section
/- What the printed readers of layer 2 and the reference's printed functions compute, in the encoding's plain words. -/
set_option linter.unusedVariables false
set_option linter.unusedSimpArgs false
namespace Go.Proofs.YtdgejkiackeieaaDoor.Wr
open Go.RowKit Go.Proofs.YtdgejkiackeieaaDoor.PWr Go.Proofs.YtdgejkiackeieaaDoorW.PrintWords Go.Proofs.YtdgejkiackeieaaDoorW.PrintMore
/-- What a reader's function answers: the value, what is left, whether it has failed. -/
def rdr {α : Type} (o : Option (α × List UInt8)) (d : α) (bad : Bool) : α × ByteArray × Bool := match o with | some (x, r) => (x, mkB r, bad) | none => (d, mkB [], true)
theorem toList_nil (s : ByteArray) (h : s.data.toList = []) : s.toList = ([] : List UInt8) := by rw [ByteArray.toList_eq, h]
theorem toList_cons (s : ByteArray) (c : UInt8) (t : List UInt8) (h : s.data.toList = c :: t) : ¬ s.toList = ([] : List UInt8) := by rw [ByteArray.toList_eq, h]; simp
theorem byte_nil (s : ByteArray) (bad : Bool) (h : s.data.toList = []) : wire_Reader_byte.f s bad = some (0, false, mkB [], true) := by
  unfold wire_Reader_byte.f wire_Reader_fail.f
  rw [if_pos (toList_nil s h)]; rfl
theorem byte_cons (s : ByteArray) (bad : Bool) (c : UInt8) (t : List UInt8) (h : s.data.toList = c :: t) : wire_Reader_byte.f s bad = some ((c.toNat : Int), true, mkB t, bad) := by
  have hz := size_pos s c t h
  unfold wire_Reader_byte.f
  rw [if_neg (toList_cons s c t h), if_pos (by omega), if_pos (by omega), bt_zero s c t h, extract_drop s 1, h]
  rfl
theorem not_u64 (m : Nat) (hm : m < 18446744073709551616) : Go.bits .xor .u64 IntKind.u64.max (m : Int) = ((18446744073709551615 - m : Nat) : Int) := by
  rw [show IntKind.u64.max = ((18446744073709551615 : Nat) : Int) from rfl, u64_xor_nat _ _ (by omega) (by omega)]
  have : 18446744073709551615 ^^^ m = 18446744073709551615 - m := by
    have hh := BitVec.toNat_not (x := BitVec.ofNat 64 m)
    have hx : (~~~(BitVec.ofNat 64 m)).toNat = 18446744073709551615 ^^^ m := by
      rw [show ~~~(BitVec.ofNat 64 m) = BitVec.allOnes 64 ^^^ BitVec.ofNat 64 m from (BitVec.allOnes_xor).symm, BitVec.toNat_xor, BitVec.toNat_allOnes, BitVec.toNat_ofNat, Nat.mod_eq_of_lt (by omega)]
    rw [← hx, hh, BitVec.toNat_ofNat, Nat.mod_eq_of_lt (by omega)]
  rw [this]
theorem or_byte (n : Nat) (c : Nat) (hn : n < 2 ^ 56) (hc : c < 256) : Go.bits .or .u64 (IntKind.u64.wrap ((n : Int) * 256)) (IntKind.u64.wrap (c : Int)) = ((n * 256 + c : Nat) : Int) := by
  have e1 : IntKind.u64.wrap ((n : Int) * 256) = ((n * 256 : Nat) : Int) := by rw [w_u64]; omega
  have e2 : IntKind.u64.wrap (c : Int) = (c : Int) := by rw [w_u64]; omega
  rw [e1, e2, u64_or_nat _ _ (by omega) (by omega), nat_join 8 (n * 256) c (by omega) (by omega)]
/-- What the reader makes of the first kk bytes. -/
def fin (neg : Bool) (kk : Nat) (t : List UInt8) (bad : Bool) : Int × ByteArray × Bool :=
  if mlen (beV (mk1 neg (t.take kk))) ≠ kk ∨ 9223372036854775808 ≤ beV (mk1 neg (t.take kk)) then (0, mkB [], true)
  else (if neg then -1 - (beV (mk1 neg (t.take kk)) : Int) else (beV (mk1 neg (t.take kk)) : Int), mkB (t.drop kk), bad)
theorem mk1_length (neg : Bool) (l : List UInt8) : (mk1 neg l).length = l.length := by cases neg <;> simp [mk1]
theorem mk1_snoc (neg : Bool) (l : List UInt8) (c : UInt8) : mk1 neg (l ++ [c]) = mk1 neg l ++ [if neg then inv c else c] := by cases neg <;> simp [mk1]
theorem pow256_le8 {k : Nat} (h : k ≤ 8) : 256 ^ k ≤ 18446744073709551616 := Nat.le_trans (Nat.pow_le_pow_right (by decide) h) (by decide)
theorem rd_loop (s : ByteArray) (neg bad : Bool) (kk : Nat) (hk : kk ≤ 8) (hl : kk ≤ s.data.toList.length) (d : Nat) : ∀ (i k : Nat), i + d = kk →
    wire_Reader_Int.l0 (k + d + 3) (kk : Int) (if neg then 255 else 0) (beV (mk1 neg (s.data.toList.take i)) : Int) (kk : Int) (i : Int) s bad = some (fin neg kk s.data.toList bad) := by
  induction d with
  | zero =>
    intro i k hi
    obtain rfl : i = kk := by omega
    have hv := beV_lt (mk1 neg (s.data.toList.take i))
    rw [mk1_length, List.length_take, Nat.min_eq_left hl] at hv
    have hv8 := pow256_le8 hk
    obtain ⟨m, hm⟩ : ∃ m, beV (mk1 neg (s.data.toList.take i)) = m := ⟨_, rfl⟩
    have hz : s.size = s.data.toList.length := (len_size s).symm
    unfold fin
    rw [hm] at hv ⊢
    rw [wire_Reader_Int.l0, if_neg (by omega), size_eq m (by omega), Option.bind_some]
    by_cases h1 : mlen m = i
    · rw [if_pos (by omega)]
      by_cases h2 : 9223372036854775808 ≤ m
      · rw [if_pos (show mlen m ≠ i ∨ 9223372036854775808 ≤ m from Or.inr h2), wire_Reader_Int.j3, if_pos (by rw [bne_iff_ne]; omega)]
        rfl
      · rw [if_neg (show ¬ (mlen m ≠ i ∨ 9223372036854775808 ≤ m) by omega), wire_Reader_Int.j3, if_neg (by rw [bne_iff_ne]; omega), if_pos (by omega), if_pos (by omega)]
        have ed : s.extract ((i : Int)).toNat s.size = mkB (s.data.toList.drop i) := extract_drop s i
        cases neg with
        | false => rw [if_pos (by simp), ed, w64 (by omega) (by omega)]; rfl
        | true =>
          have en : wrap64 (Go.bits .xor .u64 IntKind.u64.max (m : Int)) = -1 - (m : Int) := by rw [not_u64 m (by omega)]; unfold wrap64; omega
          rw [if_neg (by simp), ed, en]; rfl
    · rw [if_neg (show ¬ (mlen m : Int) = (i : Int) by omega), if_pos (show mlen m ≠ i ∨ 9223372036854775808 ≤ m from Or.inl h1), wire_Reader_Int.j3, if_pos rfl]
      rfl
  | succ d ih =>
    intro i k hi
    have hlt : i < s.data.toList.length := by omega
    have hz : s.size = s.data.toList.length := (len_size s).symm
    have hv := beV_lt (mk1 neg (s.data.toList.take i))
    rw [mk1_length, List.length_take, Nat.min_eq_left (by omega)] at hv
    have hv7 : 256 ^ i ≤ 2 ^ 56 := Nat.le_trans (Nat.pow_le_pow_right (by decide) (show i ≤ 7 by omega)) (by decide)
    have hc := (s.data.toList[i]).toNat_lt
    have hx : Go.bits .xor .u8 ((s.data.toList[i]).toNat : Int) (if neg = true then 255 else 0) = ((if neg then inv s.data.toList[i] else s.data.toList[i]).toNat : Int) := by
      have := xor_mask (s.data.toList[i]).toNat hc neg
      rw [UInt8.ofNat_toNat] at this
      exact this
    have hT : beV (mk1 neg (s.data.toList.take (i + 1))) = beV (mk1 neg (s.data.toList.take i)) * 256 + (if neg then inv s.data.toList[i] else s.data.toList[i]).toNat := by
      rw [List.take_succ_eq_append_getElem hlt, mk1_snoc, beV_snoc]
    rw [show k + (d + 1) + 3 = (k + d + 3) + 1 by omega, wire_Reader_Int.l0, if_pos (by omega), if_pos (by omega), if_pos (by omega), bt_get s i hlt, hx, or_byte _ _ (by omega) (UInt8.toNat_lt _), w64 (x := (i : Int) + 1) (by omega) (by omega), ← hT]
    exact ih (i + 1) k (by omega)
theorem intR_cons (c : UInt8) (t : List UInt8) (bad : Bool) :
    rdr (intR (c :: t)) 0 bad = if (if c.toNat < 128 then 127 - c.toNat else c.toNat - 128) > 8 ∨ (if c.toNat < 128 then 127 - c.toNat else c.toNat - 128) > t.length then (0, mkB [], true)
      else fin (decide (c.toNat < 128)) (if c.toNat < 128 then 127 - c.toNat else c.toNat - 128) t bad := by
  have mt : ∀ l, mk1 true l = l.map inv := fun _ => rfl
  have mf : ∀ l, mk1 false l = l := fun _ => rfl
  rw [intR]
  by_cases h : c.toNat < 128
  · rw [if_pos h, if_pos h, decide_eq_true h]
    generalize 127 - c.toNat = kk
    unfold fin
    rw [mt, if_pos rfl]
    by_cases h1 : kk > 8 ∨ kk > t.length
    · rw [if_pos h1, if_pos h1]; rfl
    · rw [if_neg h1, if_neg h1]
      by_cases h2 : mlen (beV ((t.take kk).map inv)) ≠ kk ∨ 9223372036854775808 ≤ beV ((t.take kk).map inv)
      · rw [if_pos h2, if_pos h2]; rfl
      · rw [if_neg h2, if_neg h2]; rfl
  · rw [if_neg h, if_neg h, decide_eq_false h]
    generalize c.toNat - 128 = kk
    unfold fin
    rw [mf]
    by_cases h1 : kk > 8 ∨ kk > t.length
    · rw [if_pos h1, if_pos h1]; rfl
    · rw [if_neg h1, if_neg h1]
      by_cases h2 : mlen (beV (t.take kk)) ≠ kk ∨ 9223372036854775808 ≤ beV (t.take kk)
      · rw [if_pos h2, if_pos h2]; rfl
      · rw [if_neg h2, if_neg h2]; rfl
set_option maxRecDepth 100000 in
theorem Reader_Int_eq (s : ByteArray) (hs : s.size ≤ 1000000) (bad : Bool) : ∃ k, wire_Reader_Int.f k s bad = some (rdr (intR s.data.toList) 0 bad) := by
  cases hl : s.data.toList with
  | nil =>
    refine ⟨0, ?_⟩
    unfold wire_Reader_Int.f
    rw [byte_nil s bad hl, Option.bind_some]
    rfl
  | cons c t =>
    have hc := c.toNat_lt
    have hz := size_pos s c t hl
    have ht : (mkB t).data.toList = t := rfl
    have e1 : wrap64 ((c.toNat : Int)) = (c.toNat : Int) := w64 (by omega) (by omega)
    have e2 : wrap64 ((c.toNat : Int) - 128) = (c.toNat : Int) - 128 := w64 (by omega) (by omega)
    obtain ⟨kk, hkk⟩ : ∃ kk : Nat, (if c.toNat < 128 then 127 - c.toNat else c.toNat - 128) = kk := ⟨_, rfl⟩
    refine ⟨(0 + kk + 3) + 1 + 1, ?_⟩
    rw [intR_cons, hkk]
    have go : wire_Reader_Int.j0 ((0 + kk + 3) + 1 + 1) (kk : Int) (if decide (c.toNat < 128) = true then 255 else 0) (mkB t) bad = some (if kk > 8 ∨ kk > t.length then (0, mkB [], true) else fin (decide (c.toNat < 128)) kk t bad) := by
      rw [wire_Reader_Int.j0]
      by_cases h8 : kk > 8
      · rw [if_pos (by omega), wire_Reader_Int.j1, if_pos rfl, if_pos (Or.inl h8)]; rfl
      · rw [if_neg (by omega), wire_Reader_Int.j1]
        have hsz : (mkB t).size = t.length := mkB_size t
        by_cases hlen : kk > t.length
        · rw [decide_eq_true (show (kk : Int) > ((mkB t).size : Int) by omega), if_pos rfl, if_pos (Or.inr hlen)]; rfl
        · rw [decide_eq_false (show ¬ (kk : Int) > ((mkB t).size : Int) by omega), if_neg (by decide), if_neg (show ¬ (kk > 8 ∨ kk > t.length) by omega)]
          have := rd_loop (mkB t) (decide (c.toNat < 128)) bad kk (by omega) (by rw [ht]; omega) kk 0 0 (by omega)
          have e0 : beV (mk1 (decide (c.toNat < 128)) ((mkB t).data.toList.take 0)) = 0 := by cases decide (c.toNat < 128) <;> rfl
          rw [e0] at this
          exact this
    unfold wire_Reader_Int.f
    rw [byte_cons s bad c t hl, Option.bind_some, if_pos rfl]
    show (if wrap64 (wrap64 (c.toNat : Int) - 128) < 0 then _ else _) = _
    rw [e1, e2]
    by_cases hneg : c.toNat < 128
    · rw [if_pos (by omega), show wrap64 (-1 - ((c.toNat : Int) - 128)) = (kk : Int) by rw [w64 (by omega) (by omega)]; rw [if_pos hneg] at hkk; omega]
      rw [decide_eq_true hneg] at go ⊢
      exact go
    · rw [if_neg (by omega), show (c.toNat : Int) - 128 = (kk : Int) by rw [if_neg hneg] at hkk; omega]
      rw [decide_eq_false hneg] at go ⊢
      exact go
end Go.Proofs.YtdgejkiackeieaaDoor.Wr
end
section
/- What the reference's printed functions of layer 2 compute, in the encoding's plain words. -/
set_option linter.unusedVariables false
set_option linter.unusedSimpArgs false
namespace Go.Proofs.YtdgejkiackeieaaDoor.Wr
open Go.RowKit Go.Proofs.YtdgejkiackeieaaDoor.PWr Go.Proofs.YtdgejkiackeieaaDoorW.PrintWords Go.Proofs.YtdgejkiackeieaaDoorW.PrintMore
theorem mlenF_fuel (f : Nat) : ∀ m, m < 256 ^ f → mlenF (f + 1) m = mlenF f m := by
  induction f with
  | zero => intro m h; rw [Nat.pow_zero] at h; obtain rfl : m = 0 := by omega
            rfl
  | succ f ih =>
    intro m h
    show (if m = 0 then 0 else mlenF (f + 1) (m / 256) + 1) = (if m = 0 then 0 else mlenF f (m / 256) + 1)
    by_cases hm : m = 0
    · rw [if_pos hm, if_pos hm]
    · rw [if_neg hm, if_neg hm, ih (m / 256) (by rw [Nat.pow_succ] at h; omega)]
theorem mlen_step {m : Nat} (hm : m ≠ 0) (h : m < 18446744073709551616) : mlen m = mlen (m / 256) + 1 := by
  show mlenF 8 m = mlenF 8 (m / 256) + 1
  rw [mlenF_fuel 7 (m / 256) (by omega)]
  show mlenF (7 + 1) m = _
  rw [mlenF, if_neg hm]
theorem mlen_zero : mlen 0 = 0 := rfl
theorem digits_eq (j : Nat) : ∀ (m k : Nat) (acc : List Int), m < 18446744073709551616 → mlen m = j → acc.length + j ≤ 100 → j ≤ 8 → bourneref02_digits.l0 (k + j + 1) (m : Int) acc = some (uh (beR j m) ++ acc) := by
  induction j with
  | zero =>
    intro m k acc h hj _ _
    have : m = 0 := by
      by_cases hm : m = 0
      · exact hm
      · rw [mlen_step hm h] at hj; omega
    subst this
    rw [bourneref02_digits.l0, if_neg (by decide)]
    rfl
  | succ j ih =>
    intro m k acc h hj ha h8
    have hm : m ≠ 0 := by intro h0; subst h0; rw [mlen_zero] at hj; omega
    have hs := mlen_step hm h
    have e1 : Int.tmod (m : Int) 256 % 256 = ((m % 256 : Nat) : Int) := by rw [Int.tmod_eq_emod_of_nonneg (by omega)]; omega
    have e2 : IntKind.u64.wrap (Int.tdiv (m : Int) 256) = ((m / 256 : Nat) : Int) := by rw [Int.tdiv_eq_ediv_of_nonneg (by omega), w_u64]; omega
    rw [← Nat.add_assoc, bourneref02_digits.l0, if_pos (by omega), e1, Option.bind_some, if_pos (by simp; omega), e2, beR_snoc, uh_append, List.append_assoc]
    have hl : ([((m % 256 : Nat) : Int)] ++ acc).length = acc.length + 1 := by simp [Nat.add_comm]
    rw [ih (m / 256) k ([((m % 256 : Nat) : Int)] ++ acc) (by omega) (by omega) (by omega) (by omega)]
    simp [uh]
theorem map255 (l : List UInt8) (d : Nat) : ∀ (i k : Nat) (pre : List UInt8), i + d = l.length → l.length ≤ 100 → pre.length ≤ i + 10 → bourneref02_Int.l0 (k + d + 1) (uh l) (uh pre) i = some (mkB (pre ++ (l.drop i).map inv)) := by
  induction d with
  | zero =>
    intro i k pre hi hl hp
    rw [bourneref02_Int.l0, if_neg (by rw [uh_length]; omega), str_uh, List.drop_of_length_le (by omega)]
    simp
  | succ d ih =>
    intro i k pre hi hl hp
    have hlt : i < l.length := by omega
    have hg : rd (uh l) (i : Int) = (l[i].toNat : Int) := by
      show (uh l).getD ((i : Int)).toNat 0 = _
      rw [Int.toNat_natCast, List.getD_eq_getElem?_getD, uh, List.getElem?_map, List.getElem?_eq_getElem hlt]; rfl
    have hc := l[i].toNat_lt
    have e : (255 - (l[i].toNat : Int)) % 256 = ((inv l[i]).toNat : Int) := by rw [inv_toNat]; omega
    rw [← Nat.add_assoc, bourneref02_Int.l0, if_pos (by rw [uh_length]; omega), if_pos (by omega), if_pos (by rw [uh_length]; omega), hg, e, w64 (x := (i : Int) + 1) (by omega) (by omega)]
    have e2 : uh pre ++ [((inv l[i]).toNat : Int)] = uh (pre ++ [inv l[i]]) := by simp [uh]
    rw [e2]
    have := ih (i + 1) k (pre ++ [inv l[i]]) (by omega) hl (by simp; omega)
    rw [show (((i + 1 : Nat) : Int)) = (i : Int) + 1 by omega] at this
    rw [this, List.drop_eq_getElem_cons hlt, List.map_cons, List.append_assoc]
    rfl
theorem ref_Int_eq (n : Int) (h : InR n) (k : Nat) : bourneref02_Int.f (k + 20) n = some (mkB (intB n)) := by
  obtain ⟨h1, h2⟩ := h
  by_cases hn : 0 ≤ n
  · obtain ⟨m, rfl⟩ := Int.eq_ofNat_of_zero_le hn
    have h8 := mlen_le8 (m := m) (pow8 (by omega))
    have e1 : IntKind.u64.wrap (m : Int) = (m : Int) := by rw [w_u64]; omega
    have hd : bourneref02_digits.f (k + 20) (m : Int) = some (uh (beR (mlen m) m)) := by
      have := digits_eq (mlen m) m (k + 19 - mlen m) [] (by omega) rfl (by simp; omega) h8
      rw [show k + 19 - mlen m + mlen m + 1 = k + 20 by omega, List.append_nil] at this
      exact this
    unfold bourneref02_Int.f
    rw [if_pos (by omega), e1, hd, Option.bind_some, Option.bind_some, uh_length, beR_length, if_pos (by simp; omega)]
    have e2 : ([(wrap64 (128 + (mlen m : Int))) % 256] : List Int) = uh [UInt8.ofNat (128 + mlen m)] := by
      rw [w64 (x := 128 + (mlen m : Int)) (by omega) (by omega)]
      simp only [uh, List.map_cons, List.map_nil, UInt8.toNat_ofNat']
      congr 1
    rw [e2, ← uh_append, str_uh, intB_pos]
    rfl
  · obtain ⟨m, hm⟩ : ∃ m : Nat, n = -1 - (m : Int) := ⟨(-1 - n).toNat, by omega⟩
    subst hm
    have h8 := mlen_le8 (m := m) (pow8 (by omega))
    have e1 : IntKind.u64.wrap (wrap64 (-(wrap64 (-1 - (m : Int) + 1)))) = (m : Int) := by
      rw [w64 (x := -1 - (m : Int) + 1) (by omega) (by omega), w64 (by omega) (by omega), w_u64]; omega
    have hd : bourneref02_digits.f (k + 20) (m : Int) = some (uh (beR (mlen m) m)) := by
      have := digits_eq (mlen m) m (k + 19 - mlen m) [] (by omega) rfl (by simp; omega) h8
      rw [show k + 19 - mlen m + mlen m + 1 = k + 20 by omega, List.append_nil] at this
      exact this
    unfold bourneref02_Int.f
    rw [if_neg (by omega), e1, hd, Option.bind_some, uh_length, beR_length]
    have e2 : ([(wrap64 (127 - (mlen m : Int))) % 256] : List Int) = uh [UInt8.ofNat (127 - mlen m)] := by
      rw [w64 (x := 127 - (mlen m : Int)) (by omega) (by omega)]
      simp only [uh, List.map_cons, List.map_nil, UInt8.toNat_ofNat']
      congr 1
      omega
    rw [e2, intB_neg]
    have := map255 (beR (mlen m) m) (mlen m) 0 (k + 19 - mlen m) [UInt8.ofNat (127 - mlen m)] (by rw [beR_length]; omega) (by rw [beR_length]; omega) (by simp)
    rw [show k + 19 - mlen m + mlen m + 1 = k + 20 by omega] at this
    exact this
theorem ref_Text_loop (s : ByteArray) (hs : s.size ≤ 1000000) (d : Nat) : ∀ (i k : Nat) (pre : List UInt8), i + d = s.data.toList.length → pre.length ≤ 2 * i → bourneref02_Text.l0 (k + d + 1) s (uh pre) i = some (mkB (pre ++ textB (s.data.toList.drop i))) := by
  have hz : s.size = s.data.toList.length := (len_size s).symm
  induction d with
  | zero =>
    intro i k pre hi hp
    rw [bourneref02_Text.l0, if_neg (by omega), Option.bind_some, if_pos (by rw [uh_length]; simp; omega), List.drop_of_length_le (by omega)]
    have e : uh pre ++ [0, 1] = uh (pre ++ [0, 1]) := by simp [uh]
    rw [e, str_uh]; rfl
  | succ d ih =>
    intro i k pre hi hp
    have hlt : i < s.data.toList.length := by omega
    have hc := s.data.toList[i].toNat_lt
    have e1 : uh pre ++ [(s.data.toList[i].toNat : Int)] = uh (pre ++ [s.data.toList[i]]) := by simp [uh]
    have ew : wrap64 ((i : Int) + 1) = ((i + 1 : Nat) : Int) := by rw [w64 (by omega) (by omega)]; omega
    rw [← Nat.add_assoc, bourneref02_Text.l0, if_pos (by omega), if_pos (by omega), if_pos (by rw [uh_length]; omega), bt_get s i hlt, Option.bind_some, e1, ew, List.drop_eq_getElem_cons hlt, textB_cons]
    by_cases h0 : s.data.toList[i] = 0
    · have e2 : uh (pre ++ [s.data.toList[i]]) ++ [255] = uh (pre ++ [0, 255]) := by rw [h0]; simp [uh]
      rw [if_pos (by rw [h0]; rfl), if_pos (by rw [uh_length]; simp; omega), e2, ih (i + 1) k (pre ++ [0, 255]) (by omega) (by simp; omega), if_pos h0, List.append_assoc]
    · have hne : ¬ (s.data.toList[i].toNat : Int) = 0 := by
        intro h
        apply h0
        have : s.data.toList[i].toNat = 0 := by omega
        rw [← UInt8.toNat_inj, this]; rfl
      rw [if_neg hne, ih (i + 1) k _ (by omega) (by simp; omega), if_neg h0, List.append_assoc]
theorem ref_Text_eq (s : ByteArray) (hs : s.size ≤ 1000000) (k : Nat) (hk : s.size < k) : bourneref02_Text.f k s = some (mkB (textB s.data.toList)) := by
  have hz : s.size = s.data.toList.length := (len_size s).symm
  have := ref_Text_loop s hs s.data.toList.length 0 (k - 1 - s.size) [] (by omega) (by simp)
  rw [show k - 1 - s.size + s.data.toList.length + 1 = k by omega] at this
  exact this
theorem mkB_append (a b : List UInt8) : mkB a ++ mkB b = mkB (a ++ b) := by
  apply ext_; rw [Go.Joins.data_append]
theorem rd_nat {xs : List Int} (i : Nat) (h : i < xs.length) : rd xs (i : Int) = xs[i] := by
  show xs.getD ((i : Int)).toNat 0 = _
  rw [Int.toNat_natCast, List.getD_eq_getElem?_getD, List.getElem?_eq_getElem h]; rfl
theorem rdOf_nat {xs : List ByteArray} (i : Nat) (h : i < xs.length) : rdOf ByteArray.empty xs (i : Int) = xs[i] := by
  show xs.getD ((i : Int)).toNat _ = _
  rw [Int.toNat_natCast, List.getD_eq_getElem?_getD, List.getElem?_eq_getElem h]; rfl
theorem ref_Nums_loop (l : List Int) (hr : ∀ x ∈ l, InR x) (hl : l.length ≤ 100000) (d : Nat) : ∀ (i k : Nat) (pre : List UInt8), i + d = l.length → pre.length ≤ 10 * i → bourneref02_Nums.l0 (k + 20 + d + 1) l (mkB pre) i = some (mkB (pre ++ numsB (l.drop i))) := by
  induction d with
  | zero =>
    intro i k pre hi hp
    rw [bourneref02_Nums.l0, if_neg (by omega), if_pos (by rw [mkB_size]; omega), List.drop_of_length_le (by omega)]
    congr 1
  | succ d ih =>
    intro i k pre hi hp
    have hlt : i < l.length := by omega
    have h9 := intB_length l[i] (hr _ (List.getElem_mem hlt))
    have ew : wrap64 ((i : Int) + 1) = ((i + 1 : Nat) : Int) := by rw [w64 (by omega) (by omega)]; omega
    have e1 : mkB pre ++ (⟨#[1]⟩ : ByteArray) = mkB (pre ++ [1]) := mkB_append pre [1]
    rw [← Nat.add_assoc, bourneref02_Nums.l0, if_pos (by omega), if_pos (by rw [mkB_size]; omega), if_pos (by omega), rd_nat i hlt, show k + 20 + d + 1 = (k + d + 1) + 20 by omega, ref_Int_eq _ (hr _ (List.getElem_mem hlt)), Option.bind_some, e1, if_pos (by rw [mkB_size, mkB_size]; simp; omega), mkB_append, ew,
      show (k + d + 1) + 20 = k + 20 + d + 1 by omega, ih (i + 1) k _ (by omega) (by simp; omega), List.drop_eq_getElem_cons hlt]
    congr 2
    show pre ++ [1] ++ _ ++ listB _ _ = pre ++ listB _ (_ :: _)
    rw [listB_cons, List.append_assoc, List.append_assoc]
    rfl
theorem ref_Nums_eq (l : List Int) (hr : ∀ x ∈ l, InR x) (hl : l.length ≤ 100000) : bourneref02_Nums.f (0 + 20 + l.length + 1) l = some (mkB (numsB l)) := ref_Nums_loop l hr hl l.length 0 0 [] (by omega) (by simp)
def lists (l : List ByteArray) : List (List UInt8) := l.map (·.data.toList)
theorem ref_Texts_loop (l : List ByteArray) (hr : ∀ x ∈ l, x.size ≤ 100000) (hl : l.length ≤ 100000) (d : Nat) : ∀ (i k : Nat) (pre : List UInt8), i + d = l.length → pre.length ≤ 200003 * i → bourneref02_Texts.l0 (k + 100001 + d + 1) l (mkB pre) i = some (mkB (pre ++ textsB ((lists l).drop i))) := by
  induction d with
  | zero =>
    intro i k pre hi hp
    rw [bourneref02_Texts.l0, if_neg (by omega), if_pos (by rw [mkB_size]; omega), List.drop_of_length_le (by unfold lists; rw [List.length_map]; omega)]
    congr 1
  | succ d ih =>
    intro i k pre hi hp
    have hlt : i < l.length := by omega
    have hsz := hr _ (List.getElem_mem hlt)
    have h9 := textB_length l[i].data.toList
    rw [len_size] at h9
    have ew : wrap64 ((i : Int) + 1) = ((i + 1 : Nat) : Int) := by rw [w64 (by omega) (by omega)]; omega
    have e1 : mkB pre ++ (⟨#[1]⟩ : ByteArray) = mkB (pre ++ [1]) := mkB_append pre [1]
    have hlm : i < (lists l).length := by unfold lists; rw [List.length_map]; exact hlt
    have hgm : (lists l)[i] = l[i].data.toList := by simp [lists]
    rw [← Nat.add_assoc, bourneref02_Texts.l0, if_pos (by omega), if_pos (by rw [mkB_size]; omega), if_pos (by omega), rdOf_nat i hlt, ref_Text_eq _ (by omega) _ (by omega), Option.bind_some, e1, if_pos (by rw [mkB_size, mkB_size]; simp; omega), mkB_append, ew,
      ih (i + 1) k _ (by omega) (by simp; omega), List.drop_eq_getElem_cons hlm, hgm]
    congr 2
    show pre ++ [1] ++ _ ++ listB _ _ = pre ++ listB _ (_ :: _)
    rw [listB_cons, List.append_assoc, List.append_assoc]
    rfl
theorem ref_Texts_eq (l : List ByteArray) (hr : ∀ x ∈ l, x.size ≤ 100000) (hl : l.length ≤ 100000) : bourneref02_Texts.f (0 + 100001 + l.length + 1) l = some (mkB (textsB (lists l))) := ref_Texts_loop l hr hl l.length 0 0 [] (by omega) (by simp)
end Go.Proofs.YtdgejkiackeieaaDoor.Wr
end
section
/- What the reference's printed readers of layer 2 compute, in the encoding's plain words. -/
set_option linter.unusedVariables false
set_option linter.unusedSimpArgs false
namespace Go.Proofs.YtdgejkiackeieaaDoor.Wr
open Go.RowKit Go.Proofs.YtdgejkiackeieaaDoor.PWr Go.Proofs.YtdgejkiackeieaaDoorW.PrintWords Go.Proofs.YtdgejkiackeieaaDoorW.PrintMore
/-- A reader's answer for a string. -/
def rdrS (o : Option (List UInt8 × List UInt8)) (bad : Bool) : ByteArray × ByteArray × Bool := match o with | some (x, r) => (mkB x, mkB r, bad) | none => (mkB [], mkB [], true)
def rdrSp (pre : List UInt8) (o : Option (List UInt8 × List UInt8)) (bad : Bool) : ByteArray × ByteArray × Bool := match o with | some (x, r) => (mkB (pre ++ x), mkB r, bad) | none => (mkB [], mkB [], true)
theorem rdrSp_map (pre : List UInt8) (c : UInt8) (o : Option (List UInt8 × List UInt8)) (bad : Bool) : rdrSp pre (o.map fun p => (c :: p.1, p.2)) bad = rdrSp (pre ++ [c]) o bad := by
  cases o with
  | none => rfl
  | some p => simp [rdrSp]
theorem byte_eq_iff (c : UInt8) (n : Nat) (hn : n < 256) : ((c.toNat : Int) = (n : Int)) ↔ c = UInt8.ofNat n := by
  constructor
  · intro h
    rw [← UInt8.toNat_inj, UInt8.toNat_ofNat', Nat.mod_eq_of_lt hn]; omega
  · intro h
    rw [h, UInt8.toNat_ofNat', Nat.mod_eq_of_lt hn]
theorem ref_RText_loop (s : ByteArray) (hs : s.size ≤ 1000000) (bad : Bool) (d : Nat) : ∀ (i k : Nat) (pre : List UInt8), s.data.toList.length ≤ i + d → i ≤ s.data.toList.length → pre.length ≤ i →
    bourneref02_Reader_Text.l0 (k + d + 1) (uh pre) (i : Int) s bad = some (rdrSp pre (textR (s.data.toList.drop i)) bad) := by
  have hz : s.size = s.data.toList.length := (len_size s).symm
  induction d with
  | zero =>
    intro i k pre hi hle hp
    have ew : wrap64 ((i : Int) + 1) = ((i + 1 : Nat) : Int) := by rw [w64 (by omega) (by omega)]; omega
    rw [bourneref02_Reader_Text.l0, ew, if_neg (by omega), List.drop_of_length_le (by omega)]
    rfl
  | succ d ih =>
    intro i k pre hi hle hp
    have ew : wrap64 ((i : Int) + 1) = ((i + 1 : Nat) : Int) := by rw [w64 (by omega) (by omega)]; omega
    have ew2 : wrap64 (((i + 1 : Nat) : Int) + 1) = ((i + 2 : Nat) : Int) := by rw [w64 (by omega) (by omega)]; omega
    by_cases h2 : i + 1 < s.data.toList.length
    · have hlt : i < s.data.toList.length := by omega
      have hg := bt_get s i hlt
      have hg2 := bt_get s (i + 1) h2
      have ed : s.data.toList.drop i = s.data.toList[i] :: s.data.toList[i + 1] :: s.data.toList.drop (i + 2) := by
        rw [List.drop_eq_getElem_cons hlt, List.drop_eq_getElem_cons h2]
      have ed1 : s.data.toList.drop (i + 1) = s.data.toList[i + 1] :: s.data.toList.drop (i + 2) := by rw [List.drop_eq_getElem_cons h2]
      rw [ed, textR, ← Nat.add_assoc, bourneref02_Reader_Text.l0, ew, if_pos (by omega), if_pos (by omega), if_pos (by omega), hg]
      by_cases h0 : s.data.toList[i] = 0
      · have c0 : (s.data.toList[i].toNat : Int) = 0 := (byte_eq_iff _ 0 (by decide)).2 h0
        rw [if_pos c0, if_pos (by omega), hg2, ew2, if_pos h0]
        by_cases h1 : s.data.toList[i + 1] = 1
        · have c1 : (s.data.toList[i + 1].toNat : Int) = 1 := (byte_eq_iff _ 1 (by decide)).2 h1
          have ne : ¬ s.data.toList[i + 1] = 255 := by rw [h1]; decide
          rw [if_pos c1, if_pos (by omega), if_pos (by omega), if_neg ne, if_pos h1, str_uh]
          have ee : s.extract (((i + 2 : Nat) : Int)).toNat s.size = mkB (s.data.toList.drop (i + 2)) := extract_drop s (i + 2)
          rw [ee]
          show _ = some (mkB (pre ++ []), _, _)
          rw [List.append_nil]
        · have c1 : ¬ (s.data.toList[i + 1].toNat : Int) = 1 := fun h => h1 ((byte_eq_iff _ 1 (by decide)).1 h)
          rw [if_neg c1]
          by_cases h255 : s.data.toList[i + 1] = 255
          · have c2 : (s.data.toList[i + 1].toNat : Int) = 255 := (byte_eq_iff _ 255 (by decide)).2 h255
            have e2 : uh pre ++ [0] = uh (pre ++ [0]) := by simp [uh]
            rw [if_pos c2, if_pos (by rw [uh_length]; omega), if_pos h255, e2, rdrSp_map]
            exact ih (i + 2) k (pre ++ [0]) (by omega) (by omega) (by simp; omega)
          · have c2 : ¬ (s.data.toList[i + 1].toNat : Int) = 255 := fun h => h255 ((byte_eq_iff _ 255 (by decide)).1 h)
            rw [if_neg c2, if_neg h255, if_neg h1]
            rfl
      · have c0 : ¬ (s.data.toList[i].toNat : Int) = 0 := fun h => h0 ((byte_eq_iff _ 0 (by decide)).1 h)
        have e1 : uh pre ++ [(s.data.toList[i].toNat : Int)] = uh (pre ++ [s.data.toList[i]]) := by simp [uh]
        rw [if_neg c0, if_pos (by rw [uh_length]; omega), if_neg h0, e1, ← ed1, rdrSp_map]
        exact ih (i + 1) k (pre ++ [s.data.toList[i]]) (by omega) (by omega) (by simp; omega)
    · rw [bourneref02_Reader_Text.l0, ew, if_neg (by omega)]
      have : textR (s.data.toList.drop i) = none := by
        cases hd : s.data.toList.drop i with
        | nil => rfl
        | cons c t =>
          have hl : (s.data.toList.drop i).length = t.length + 1 := by rw [hd]; rfl
          rw [List.length_drop] at hl
          cases t with
          | nil => rfl
          | cons d t => simp only [List.length_cons] at hl; omega
      rw [this]
      rfl
theorem ref_RText_eq (s : ByteArray) (hs : s.size ≤ 1000000) (bad : Bool) (k : Nat) (hk : s.size < k) : bourneref02_Reader_Text.f k s bad = some (rdrS (textR s.data.toList) bad) := by
  have hz : s.size = s.data.toList.length := (len_size s).symm
  have := ref_RText_loop s hs bad s.data.toList.length 0 (k - 1 - s.size) [] (by omega) (by omega) (by simp)
  rw [show k - 1 - s.size + s.data.toList.length + 1 = k by omega] at this
  refine this.trans ?_
  rw [List.drop_zero]
  cases textR s.data.toList <;> rfl
theorem More_nil (s : ByteArray) (bad : Bool) (h : s.data.toList = []) : bourneref02_Reader_More.f s bad = some (false, mkB [], true) := by
  unfold bourneref02_Reader_More.f bourneref02_Reader_fail.f
  rw [if_pos (toList_nil s h)]; rfl
theorem More_cons (s : ByteArray) (bad : Bool) (c : UInt8) (t : List UInt8) (h : s.data.toList = c :: t) : bourneref02_Reader_More.f s bad = if c = 0 then some (false, mkB t, bad) else if c = 1 then some (true, mkB t, bad) else some (false, mkB [], true) := by
  have hz := size_pos s c t h
  have hc := c.toNat_lt
  unfold bourneref02_Reader_More.f bourneref02_Reader_fail.f
  rw [if_neg (toList_cons s c t h), if_pos (show (0 : Int) < (s.size : Int) by omega), bt_zero s c t h, extract_drop s 1, h]
  by_cases h0 : c = 0
  · subst h0
    rw [if_neg (show ¬ ((0 : UInt8).toNat : Int) > 1 by decide), if_pos (show (1 : Int) ≤ (s.size : Int) by omega)]
    rfl
  · by_cases h1 : c = 1
    · subst h1
      rw [if_neg (show ¬ ((1 : UInt8).toNat : Int) > 1 by decide), if_pos (show (1 : Int) ≤ (s.size : Int) by omega)]
      rfl
    · have n0 : ¬ (c.toNat : Int) = 0 := fun h => h0 ((byte_eq_iff _ 0 (by decide)).1 h)
      have n1 : ¬ (c.toNat : Int) = 1 := fun h => h1 ((byte_eq_iff _ 1 (by decide)).1 h)
      rw [if_pos (show (c.toNat : Int) > 1 by omega), if_neg h0, if_neg h1]; rfl
/-- A reader's answer for a list. -/
def rdrL {α β : Type} (g : α → β) (acc : List β) (o : Option (List α × List UInt8)) (bad : Bool) : List β × ByteArray × Bool := match o with | some (xs, r) => (acc ++ xs.map g, mkB r, bad) | none => ([], mkB [], true)
theorem rdrL_map {α β : Type} (g : α → β) (acc : List β) (x : α) (o : Option (List α × List UInt8)) (bad : Bool) : rdrL g acc (o.map fun p => (x :: p.1, p.2)) bad = rdrL g (acc ++ [g x]) o bad := by
  cases o with
  | none => rfl
  | some p => simp [rdrL]
theorem RTexts_bad (k : Nat) (acc : List ByteArray) : bourneref02_Reader_Texts.l0 (k + 1) acc (mkB []) true = some ([], mkB [], true) := by
  rw [bourneref02_Reader_Texts.l0, More_nil (mkB []) true rfl, Option.bind_some, if_neg Bool.false_ne_true, if_pos rfl]
theorem ref_RTexts_loop (f : Nat) : ∀ (s : ByteArray) (acc : List ByteArray) (k : Nat), s.size < f → s.size ≤ 100000 → acc.length + s.size ≤ 200000 →
    bourneref02_Reader_Texts.l0 (k + 100002 + f) acc s false = some (rdrL mkB acc (listR textR f s.data.toList) false) := by
  induction f with
  | zero => intro s acc k h; omega
  | succ f ih =>
    intro s acc k h hs ha
    have hz : s.size = s.data.toList.length := (len_size s).symm
    rw [← Nat.add_assoc, bourneref02_Reader_Texts.l0]
    cases hl : s.data.toList with
    | nil =>
      rw [More_nil s false hl, Option.bind_some, if_neg Bool.false_ne_true, if_pos rfl]
      rfl
    | cons c t =>
      have hsz := size_pos s c t hl
      rw [More_cons s false c t hl, listR]
      by_cases h0 : c = 0
      · rw [if_pos h0, if_pos h0, Option.bind_some, if_neg Bool.false_ne_true, if_neg Bool.false_ne_true]
        simp [rdrL]
      · rw [if_neg h0, if_neg h0]
        by_cases h1 : c = 1
        · rw [if_pos h1, if_pos h1, Option.bind_some, if_pos rfl]
          have hmt : (mkB t).size = t.length := mkB_size t
          show ((bourneref02_Reader_Text.f (k + 100002 + f) (mkB t) false).bind fun bt177 => _) = _
          rw [ref_RText_eq (mkB t) (by omega) false _ (by omega), Option.bind_some, if_pos (by omega), mkB_list]
          cases ho : textR t with
          | none =>
            obtain ⟨j, hj⟩ : ∃ j, k + 100002 + f = j + 1 := ⟨k + 100001 + f, by omega⟩
            rw [hj]
            exact RTexts_bad j _
          | some p =>
            obtain ⟨x, r⟩ := p
            have hr := textR_length t x r ho
            simp only
            rw [rdrL_map]
            exact ih (mkB r) (acc ++ [mkB x]) k (by rw [mkB_size]; omega) (by rw [mkB_size]; omega) (by rw [mkB_size, List.length_append, List.length_singleton]; omega)
        · rw [if_neg h1, if_neg h1, Option.bind_some, if_neg Bool.false_ne_true, if_pos rfl]
          rfl
/-- The states that a reader can come to: once it has failed nothing is left. -/
def Okr (s : ByteArray) (bad : Bool) : Prop := bad = true → s = mkB []
theorem ref_RTexts_eq (s : ByteArray) (hs : s.size ≤ 100000) (bad : Bool) (hb : Okr s bad) : bourneref02_Reader_Texts.f (0 + 100002 + (s.size + 1)) s bad = some (rdrL mkB [] (textsR s.data.toList) bad) := by
  cases bad with
  | false =>
    have := ref_RTexts_loop (s.size + 1) s [] 0 (by omega) hs (by simp; omega)
    refine this.trans ?_
    rw [textsR, len_size]
  | true =>
    have := hb rfl
    subst this
    exact RTexts_bad _ _
theorem SameNums_loop (a b : List Int) (hl : a.length = b.length) (hm : a.length ≤ 1000000) (d : Nat) : ∀ (i k : Nat), i + d = a.length → bourneref02_SameNums.l0 (k + d + 1) a b i = some (decide (a.drop i = b.drop i)) := by
  induction d with
  | zero =>
    intro i k hi
    rw [bourneref02_SameNums.l0, if_neg (by omega), List.drop_of_length_le (by omega), List.drop_of_length_le (by omega)]
    rfl
  | succ d ih =>
    intro i k hi
    have h1 : i < a.length := by omega
    have h2 : i < b.length := by omega
    have ew : wrap64 ((i : Int) + 1) = ((i + 1 : Nat) : Int) := by rw [w64 (by omega) (by omega)]; omega
    rw [← Nat.add_assoc, bourneref02_SameNums.l0, if_pos (by omega), if_pos (by omega), if_pos (by omega), rd_nat i h1, rd_nat i h2, ew]
    have hcons : (a.drop i = b.drop i) ↔ (a[i] = b[i] ∧ a.drop (i + 1) = b.drop (i + 1)) := by
      rw [List.drop_eq_getElem_cons h1, List.drop_eq_getElem_cons h2, List.cons_eq_cons]
    by_cases he : a[i] = b[i]
    · rw [if_pos he, ih (i + 1) k (by omega)]
      exact congrArg some (decide_eq_decide.2 ⟨fun h => hcons.2 ⟨he, h⟩, fun h => (hcons.1 h).2⟩)
    · rw [if_neg he, decide_eq_false (fun h => he (hcons.1 h).1)]
theorem SameNums_eq (a b : List Int) (hm : a.length ≤ 1000000) : bourneref02_SameNums.f (a.length + 1) a b = some (decide (a = b)) := by
  unfold bourneref02_SameNums.f
  by_cases hl : a.length = b.length
  · rw [if_pos (by omega)]
    have := SameNums_loop a b hl hm a.length 0 0 (by omega)
    rw [Nat.zero_add] at this
    exact this
  · rw [if_neg (by omega)]
    have : ¬ a = b := fun h => hl (by rw [h])
    rw [decide_eq_false this]
theorem SameTexts_loop (a b : List ByteArray) (hl : a.length = b.length) (hm : a.length ≤ 1000000) (d : Nat) : ∀ (i k : Nat), i + d = a.length → bourneref02_SameTexts.l0 (k + d + 1) a b i = some (decide (a.drop i = b.drop i)) := by
  induction d with
  | zero =>
    intro i k hi
    rw [bourneref02_SameTexts.l0, if_neg (by omega), List.drop_of_length_le (by omega), List.drop_of_length_le (by omega)]
    rfl
  | succ d ih =>
    intro i k hi
    have h1 : i < a.length := by omega
    have h2 : i < b.length := by omega
    have ew : wrap64 ((i : Int) + 1) = ((i + 1 : Nat) : Int) := by rw [w64 (by omega) (by omega)]; omega
    rw [← Nat.add_assoc, bourneref02_SameTexts.l0, if_pos (by omega), if_pos (by omega), if_pos (by omega), rdOf_nat i h1, rdOf_nat i h2, ew]
    have hcons : (a.drop i = b.drop i) ↔ (a[i] = b[i] ∧ a.drop (i + 1) = b.drop (i + 1)) := by
      rw [List.drop_eq_getElem_cons h1, List.drop_eq_getElem_cons h2, List.cons_eq_cons]
    by_cases he : a[i] = b[i]
    · rw [if_pos (by rw [he]), ih (i + 1) k (by omega)]
      exact congrArg some (decide_eq_decide.2 ⟨fun h => hcons.2 ⟨he, h⟩, fun h => (hcons.1 h).2⟩)
    · have hn : ¬ a[i].toList = b[i].toList := by
        intro h
        rw [ByteArray.toList_eq, ByteArray.toList_eq] at h
        exact he (ext_ h)
      rw [if_neg hn, decide_eq_false (fun h => he (hcons.1 h).1)]
theorem SameTexts_eq (a b : List ByteArray) (hm : a.length ≤ 1000000) : bourneref02_SameTexts.f (a.length + 1) a b = some (decide (a = b)) := by
  unfold bourneref02_SameTexts.f
  by_cases hl : a.length = b.length
  · rw [if_pos (by omega)]
    have := SameTexts_loop a b hl hm a.length 0 0 (by omega)
    rw [Nat.zero_add] at this
    exact this
  · rw [if_neg (by omega)]
    have : ¬ a = b := fun h => hl (by rw [h])
    rw [decide_eq_false this]
end Go.Proofs.YtdgejkiackeieaaDoor.Wr
end
section
/- strings.ReplaceAll as a plain scan from the left. -/
set_option linter.unusedVariables false
set_option linter.unusedSimpArgs false
namespace Go.Proofs.YtdgejkiackeieaaDoor
/-- What ReplaceAll does: at each place, from the left, an instance is replaced, any other byte is kept. -/
def scan (old new : List UInt8) : Nat → List UInt8 → List UInt8
  | 0, s => s
  | _ + 1, [] => []
  | f + 1, b :: l => if old.isPrefixOf (b :: l) then new ++ scan old new f ((b :: l).drop old.length) else b :: scan old new f l
theorem scan_nil (old new : List UInt8) (f : Nat) : scan old new f [] = [] := by cases f <;> rfl
theorem scan_fuel (old new : List UInt8) (ho : old ≠ []) : ∀ (f : Nat) (s : List UInt8), s.length ≤ f → scan old new (f + 1) s = scan old new f s := by
  have hl : 0 < old.length := List.length_pos_iff.2 ho
  intro f
  induction f with
  | zero => intro s h; obtain rfl : s = [] := List.eq_nil_of_length_eq_zero (by omega)
            rfl
  | succ f ih =>
    intro s h
    cases s with
    | nil => rfl
    | cons b l =>
      simp only [List.length_cons] at h
      rw [scan]
      conv => rhs; rw [scan]
      split
      · rw [ih _ (by rw [List.length_drop, List.length_cons]; omega)]
      · rw [ih l (by omega)]
theorem scan_more (old new : List UInt8) (ho : old ≠ []) (f : Nat) (s : List UInt8) (h : s.length ≤ f) (d : Nat) : scan old new (f + d) s = scan old new f s := by
  induction d with
  | zero => rfl
  | succ d ih => rw [← Nat.add_assoc, scan_fuel old new ho _ s (by omega), ih]
theorem scan_miss (old new : List UInt8) : ∀ (s : List UInt8) (f : Nat), Lib.index s old = -1 → scan old new f s = s := by
  intro s
  induction s with
  | nil => intro f _; exact scan_nil old new f
  | cons b l ih =>
    intro f h
    cases f with
    | zero => rfl
    | succ f =>
      have hg := Lib.index_ge l old
      rw [Lib.index] at h
      rw [scan]
      by_cases hp : old.isPrefixOf (b :: l) = true
      · rw [if_pos hp] at h; cases h
      · rw [if_neg hp] at h
        by_cases hm : (Lib.index l old == -1) = true
        · rw [if_neg hp, ih f (beq_iff_eq.1 hm)]
        · rw [if_neg hm] at h; omega
theorem scan_hit (old new : List UInt8) : ∀ (s : List UInt8) (f i : Nat), s.length ≤ f → Lib.index s old = (i : Int) → s ≠ [] → ∃ f', s.length ≤ f' + i + 1 ∧ scan old new f s = s.take i ++ new ++ scan old new f' (s.drop (i + old.length)) := by
  intro s
  induction s with
  | nil => intro f i _ _ h; exact absurd rfl h
  | cons b l ih =>
    intro f i hf h _
    simp only [List.length_cons] at hf
    obtain ⟨f, rfl⟩ : ∃ m, f = m + 1 := ⟨f - 1, by omega⟩
    have hg := Lib.index_ge l old
    rw [Lib.index] at h
    rw [scan]
    by_cases hp : old.isPrefixOf (b :: l) = true
    · rw [if_pos hp] at h
      obtain rfl : i = 0 := by omega
      refine ⟨f, by simp only [List.length_cons]; omega, ?_⟩
      rw [if_pos hp, List.take_zero, Nat.zero_add]
      rfl
    · rw [if_neg hp] at h
      by_cases hm : (Lib.index l old == -1) = true
      · rw [if_pos hm] at h; omega
      · rw [if_neg hm] at h
        obtain ⟨j, rfl⟩ : ∃ j, i = j + 1 := ⟨i - 1, by have : Lib.index l old ≠ -1 := fun e => hm (beq_iff_eq.2 e); omega⟩
        have hj : Lib.index l old = (j : Int) := by omega
        by_cases hln : l = []
        · subst hln
          -- old is not empty here, for it is no prefix of what follows
          rw [Lib.index] at hj
          by_cases he : old.isEmpty = true
          · have : old = [] := by simpa using he
            subst this
            simp at hp
          · rw [if_neg he] at hj; omega
        · obtain ⟨f', h1, h2⟩ := ih f j (by omega) hj hln
          refine ⟨f', by simp only [List.length_cons]; omega, ?_⟩
          rw [if_neg hp, h2, List.take_succ_cons, show j + 1 + old.length = (j + old.length) + 1 by omega, List.drop_succ_cons]
          rfl
theorem replaceK_scan (old new : List UInt8) (ho : old ≠ []) : ∀ (n : Nat) (s : List UInt8) (f : Nat), s.length ≤ n → s.length ≤ f → Lib.replaceK old new (Lib.count s old) s = scan old new f s := by
  have hl : 0 < old.length := List.length_pos_iff.2 ho
  intro n
  induction n with
  | zero =>
    intro s f h _
    obtain rfl : s = [] := List.eq_nil_of_length_eq_zero (by omega)
    have hi : Lib.index [] old = -1 := by
      rw [Lib.index, if_neg]; simpa using ho
    rw [Lib.count_miss hi, scan_nil]; rfl
  | succ n ih =>
    intro s f h hf
    by_cases hm : Lib.index s old = -1
    · rw [Lib.count_miss hm, scan_miss old new s f hm]; rfl
    · obtain ⟨i, hi⟩ : ∃ i : Nat, Lib.index s old = (i : Int) := ⟨(Lib.index s old).toNat, by have := Lib.index_ge s old; omega⟩
      by_cases hs : s = []
      · subst hs
        rw [Lib.index, if_neg (by simpa using ho)] at hi; omega
      obtain ⟨f', h1, h2⟩ := scan_hit old new s f i hf hi hs
      rw [h2, Lib.count_hit ho hi, Nat.add_comm 1, Lib.replaceK_hit old new _ s i hi]
      have hs0 : 0 < s.length := List.length_pos_iff.2 hs
      rw [ih (s.drop (i + old.length)) f' (by rw [List.length_drop]; omega) (by rw [List.length_drop]; omega)]
theorem scan_self (old : List UInt8) : ∀ (f : Nat) (s : List UInt8), scan old old f s = s := by
  intro f
  induction f with
  | zero => intro s; rfl
  | succ f ih =>
    intro s
    cases s with
    | nil => rfl
    | cons b l =>
      rw [scan]
      by_cases hp : old.isPrefixOf (b :: l) = true
      · rw [if_pos hp, ih]
        obtain ⟨t, ht⟩ := List.isPrefixOf_iff_prefix.1 hp
        rw [← ht, List.drop_left]
      · rw [if_neg hp, ih]
theorem replaceAll_scan (s old new : List UInt8) (ho : old ≠ []) : Lib.replaceAll s old new = scan old new s.length s := by
  unfold Lib.replaceAll Lib.replace
  by_cases he : (old == new) = true
  · rw [if_pos he, ← beq_iff_eq.1 he, scan_self]
  · rw [if_neg he]
    have : Lib.replaceNum s old (-1) = Lib.count s old := by unfold Lib.replaceNum; rw [if_pos (Or.inl (by decide))]
    rw [this, replaceK_scan old new ho s.length s s.length (Nat.le_refl _) (Nat.le_refl _)]
/-- At one byte. -/
theorem replaceAll_one (s : List UInt8) (c : UInt8) (new : List UInt8) : Lib.replaceAll s [c] new = s.flatMap fun b => if b = c then new else [b] := by
  rw [replaceAll_scan s [c] new (by simp)]
  have : ∀ (s : List UInt8) (f : Nat), s.length ≤ f → scan [c] new f s = s.flatMap fun b => if b = c then new else [b] := by
    intro s
    induction s with
    | nil => intro f _; rw [scan_nil]; rfl
    | cons b l ih =>
      intro f hf
      simp only [List.length_cons] at hf
      obtain ⟨f, rfl⟩ : ∃ m, f = m + 1 := ⟨f - 1, by omega⟩
      rw [scan, List.flatMap_cons]
      by_cases hb : b = c
      · subst hb
        rw [if_pos (by simp [List.isPrefixOf]), if_pos rfl]
        show new ++ scan _ _ f l = _
        rw [ih f (by omega)]
      · rw [if_neg (by simp [List.isPrefixOf]; exact fun h => hb h.symm), if_neg hb, ih f (by omega)]
        rfl
  exact this s s.length (Nat.le_refl _)
end Go.Proofs.YtdgejkiackeieaaDoor
end
section
/- The library's contract of strings.ReplaceAll at this program's numbers. -/
set_option linter.unusedVariables false
namespace Go.Proofs
open Go.Shelf
def Tryd.lays155_ren : Go.Shelf.Ren := ⟨fun | 155 => 101 | 154 => 133 | 138 => 144 | 165 => 145 | 143 => 146 | 166 => 132 | 197 => 147 | 169 => 93 | 195 => 150 | 218 => 151 | 240 => 124 | 241 => 152 | 219 => 153 | 260 => 154 | 276 => 140 | 277 => 155 | 217 => 125 | 225 => 156 | 224 => 157 | 267 => 158 | 266 => 141 | 314 => 159 | n => n, fun | 9 => 9 | 3 => 3 | 4 => 4 | 72 => 91 | 0 => 0 | 76 => 138 | 105 => 149 | 21 => 21 | 5 => 5 | 70 => 89 | 20 => 20 | 37 => 30 | 75 => 93 | 127 => 125 | 164 => 144 | 46 => 64 | 119 => 155 | 139 => 158 | 138 => 157 | 146 => 151 | 51 => 97 | 80 => 71 | n => n, fun | 1 => 4 | 3 => 5 | 4 => 6 | n => n⟩
theorem Tryd.lays155 : Go.Proofs.Lays.n155 Tryd.prog Tryd.lays155_ren := {
  mixed := by kernel_rfl
  f138 := Tryd.func144.trans (congrArg some (by kernel_rfl))
  f143 := Tryd.func146.trans (congrArg some (by kernel_rfl))
  f154 := Tryd.func133.trans (congrArg some (by kernel_rfl))
  f155 := Tryd.func101.trans (congrArg some (by kernel_rfl))
  f165 := Tryd.func145.trans (congrArg some (by kernel_rfl))
  f166 := Tryd.func132.trans (congrArg some (by kernel_rfl))
  f169 := Tryd.func93.trans (congrArg some (by kernel_rfl))
  f195 := Tryd.func150.trans (congrArg some (by kernel_rfl))
  f197 := Tryd.func147.trans (congrArg some (by kernel_rfl))
  f217 := Tryd.func125.trans (congrArg some (by kernel_rfl))
  f218 := Tryd.func151.trans (congrArg some (by kernel_rfl))
  f219 := Tryd.func153.trans (congrArg some (by kernel_rfl))
  f224 := Tryd.func157.trans (congrArg some (by kernel_rfl))
  f225 := Tryd.func156.trans (congrArg some (by kernel_rfl))
  f240 := Tryd.func124.trans (congrArg some (by kernel_rfl))
  f241 := Tryd.func152.trans (congrArg some (by kernel_rfl))
  f260 := Tryd.func154.trans (congrArg some (by kernel_rfl))
  f266 := Tryd.func141.trans (congrArg some (by kernel_rfl))
  f267 := Tryd.func158.trans (congrArg some (by kernel_rfl))
  f276 := Tryd.func140.trans (congrArg some (by kernel_rfl))
  f277 := Tryd.func155.trans (congrArg some (by kernel_rfl))
  f314 := Tryd.func159.trans (congrArg some (by kernel_rfl))
  t0 := Tryd.underlying0
  a0 := Tryd.isAgg0
  z0 := Tryd.sizeOf0
  v0 := Tryd.zeroValue0
  t3 := Tryd.underlying3
  a3 := Tryd.isAgg3
  z3 := Tryd.sizeOf3
  v3 := Tryd.zeroValue3
  t4 := Tryd.underlying4
  a4 := Tryd.isAgg4
  z4 := Tryd.sizeOf4
  v4 := Tryd.zeroValue4
  t5 := Tryd.underlying5
  a5 := Tryd.isAgg5
  z5 := Tryd.sizeOf5
  v5 := Tryd.zeroValue5
  t9 := Tryd.underlying9
  a9 := Tryd.isAgg9
  z9 := Tryd.sizeOf9
  v9 := Tryd.zeroValue9
  t20 := Tryd.underlying20
  a20 := Tryd.isAgg20
  z20 := Tryd.sizeOf20
  v20 := Tryd.zeroValue20
  t21 := Tryd.underlying21
  a21 := Tryd.isAgg21
  z21 := Tryd.sizeOf21
  v21 := Tryd.zeroValue21
  t37 := Tryd.underlying30
  a37 := Tryd.isAgg30
  z37 := Tryd.sizeOf30
  v37 := Tryd.zeroValue30
  t46 := Tryd.underlying64
  a46 := Tryd.isAgg64
  z46 := Tryd.sizeOf64
  v46 := Tryd.zeroValue64
  t51 := Tryd.underlying97
  a51 := Tryd.isAgg97
  z51 := Tryd.sizeOf97
  v51 := Tryd.zeroValue97
  t70 := Tryd.underlying89
  a70 := Tryd.isAgg89
  z70 := Tryd.sizeOf89
  v70 := Tryd.zeroValue89
  t72 := Tryd.underlying91
  a72 := Tryd.isAgg91
  z72 := Tryd.sizeOf91
  v72 := Tryd.zeroValue91
  t75 := Tryd.underlying93
  a75 := Tryd.isAgg93
  z75 := Tryd.sizeOf93
  v75 := Tryd.zeroValue93
  t76 := Tryd.underlying138
  a76 := Tryd.isAgg138
  z76 := Tryd.sizeOf138
  v76 := Tryd.zeroValue138
  t105 := Tryd.underlying149
  a105 := Tryd.isAgg149
  z105 := Tryd.sizeOf149
  v105 := Tryd.zeroValue149
  t119 := Tryd.underlying155
  a119 := Tryd.isAgg155
  z119 := Tryd.sizeOf155
  t127 := Tryd.underlying125
  a127 := Tryd.isAgg125
  z127 := Tryd.sizeOf125
  v127 := Tryd.zeroValue125
  t138 := Tryd.underlying157
  a138 := Tryd.isAgg157
  z138 := Tryd.sizeOf157
  v138 := Tryd.zeroValue157
  t139 := Tryd.underlying158
  a139 := Tryd.isAgg158
  z139 := Tryd.sizeOf158
  v139 := Tryd.zeroValue158
  t146 := Tryd.underlying151
  a146 := Tryd.isAgg151
  z146 := Tryd.sizeOf151
  v146 := Tryd.zeroValue151
  t164 := Tryd.underlying144
  a164 := Tryd.isAgg144
  z164 := Tryd.sizeOf144
  v164 := Tryd.zeroValue144
  g1 := by kernel_rfl
  g3 := by kernel_rfl
  g4 := by kernel_rfl }
theorem Tryd.Builder_Extra_155 : Builder.Extra Tryd.prog Tryd.lays155_ren := {
  sizeBuilder := by kernel_rfl
  liesBuilder := by kernel_rfl
  t5 := Tryd.underlying5
  a5 := Tryd.isAgg5
  z5 := Tryd.sizeOf5
  v5 := Tryd.zeroValue5
  infoByte := by kernel_rfl
  cellsByte := by kernel_rfl
  sizeByte := by kernel_rfl
  neB5 := by decide }
open Go.RowKit Go.Lib in
theorem Tryd.strings_ReplaceAll (s old new : ByteArray) (m : Int) (w : World) (hs : s.size < 4294967281) (hm : w.cell? ⟨4, 0, none⟩ = some (.int .i64 m)) (h1 : 1 ≤ old.size) (hlen : s.size + Lib.countB s old * new.size ≤ 140737488355328) :
    Calls Tryd.prog 101 #[.string s, .string old, .string new] w fun e w' =>
      e = .returned (.string ⟨(Lib.replaceAll s.data.toList old.data.toList new.data.toList).toArray⟩) ∧ Below w.heap.size w w' := Any.strings_ReplaceAll Tryd.lays155 Tryd.Builder_Extra_155 s old new m w hs hm h1 hlen
end Go.Proofs
end
section
/- The library's contracts of (*strings.Builder).String and strings.IndexByte at this program's numbers. -/
set_option linter.unusedVariables false
namespace Go.Proofs
open Go.Shelf
def Tryd.lays169_ren : Go.Shelf.Ren := ⟨fun | 169 => 93 | n => n, fun | 70 => 89 | 9 => 9 | 0 => 0 | 72 => 91 | 37 => 30 | 127 => 125 | 3 => 3 | 5 => 5 | n => n, fun | n => n⟩
theorem Tryd.lays169 : Go.Proofs.Lays.n169 Tryd.prog Tryd.lays169_ren := {
  mixed := by kernel_rfl
  f169 := Tryd.func93.trans (congrArg some (by kernel_rfl))
  t0 := Tryd.underlying0
  a0 := Tryd.isAgg0
  z0 := Tryd.sizeOf0
  v0 := Tryd.zeroValue0
  t3 := Tryd.underlying3
  a3 := Tryd.isAgg3
  z3 := Tryd.sizeOf3
  v3 := Tryd.zeroValue3
  t9 := Tryd.underlying9
  a9 := Tryd.isAgg9
  z9 := Tryd.sizeOf9
  v9 := Tryd.zeroValue9
  t37 := Tryd.underlying30
  a37 := Tryd.isAgg30
  z37 := Tryd.sizeOf30
  v37 := Tryd.zeroValue30
  t70 := Tryd.underlying89
  a70 := Tryd.isAgg89
  z70 := Tryd.sizeOf89
  v70 := Tryd.zeroValue89
  t72 := Tryd.underlying91
  a72 := Tryd.isAgg91
  z72 := Tryd.sizeOf91
  v72 := Tryd.zeroValue91
  t127 := Tryd.underlying125
  a127 := Tryd.isAgg125
  z127 := Tryd.sizeOf125
  v127 := Tryd.zeroValue125 }
theorem Tryd.Builder_Extra_169 : Builder.Extra Tryd.prog Tryd.lays169_ren := {
  sizeBuilder := by kernel_rfl
  liesBuilder := by kernel_rfl
  t5 := Tryd.underlying5
  a5 := Tryd.isAgg5
  z5 := Tryd.sizeOf5
  v5 := Tryd.zeroValue5
  infoByte := by kernel_rfl
  cellsByte := by kernel_rfl
  sizeByte := by kernel_rfl
  neB5 := by decide }
open Go.RowKit in
theorem Tryd.Builder_String_any_k (B b : Nat) (l : List UInt8) (w : World) (h : Lib.IsBuilderF 91 5 B b (Lib.byteCells l) w) (hBw : B ≤ w.heap.size) :
    Calls Tryd.prog 93 #[.pointer (some ⟨b, 0, none⟩)] w fun e w' => e = .returned (.string ⟨l.toArray⟩) ∧ (Lib.IsBuilderF 91 5 B b (Lib.byteCells l) w' ∧ Below B w w' ∧ Lib.OthersKept 5 (some b) w w') := Any.Builder_String_any_k Tryd.lays169 Tryd.Builder_Extra_169 B b l w h hBw
def Tryd.lays137_ren : Go.Shelf.Ren := ⟨fun | 137 => 94 | 217 => 125 | 266 => 141 | n => n, fun | 9 => 9 | 5 => 5 | 3 => 3 | n => n, fun | n => n⟩
theorem Tryd.lays137 : Go.Proofs.Lays.n137 Tryd.prog Tryd.lays137_ren := {
  mixed := by kernel_rfl
  f137 := Tryd.func94.trans (congrArg some (by kernel_rfl))
  f217 := Tryd.func125.trans (congrArg some (by kernel_rfl))
  f266 := Tryd.func141.trans (congrArg some (by kernel_rfl))
  t3 := Tryd.underlying3
  a3 := Tryd.isAgg3
  z3 := Tryd.sizeOf3
  v3 := Tryd.zeroValue3
  t5 := Tryd.underlying5
  a5 := Tryd.isAgg5
  z5 := Tryd.sizeOf5
  v5 := Tryd.zeroValue5
  t9 := Tryd.underlying9
  a9 := Tryd.isAgg9
  z9 := Tryd.sizeOf9
  v9 := Tryd.zeroValue9 }
open Go.RowKit in
theorem Tryd.strings_IndexByte (s : ByteArray) (c : Int) (w : World) :
    Calls Tryd.prog 94 #[.string s, .int .u8 c] w fun e w' => e = .returned (.int .i64 (Lib.indexByte s.data.toList c.toNat.toUInt8)) ∧ w' = w := Any.strings_IndexByte Tryd.lays137 s c w
end Go.Proofs
end
section
/- The contracts of strings.Builder's copyCheck, WriteByte and WriteString at this program: for every builder that the call itself has made. -/
namespace Go.Proofs.YtdgejkiackeieaaDoor
open Go.RowKit
theorem sizeBuilder : (Tryd.prog.info? 91).map (fun i => i.size) = some 2 := by kernel_rfl
theorem infoByte : (Tryd.prog.info? 5).map (fun i => (i.zero, i.size, i.bytes)) = some (some (.int .u8 0), 1, 1) := by kernel_rfl
set_option maxRecDepth 100000 in
theorem copyCheck_fresh (b : Nat) (v : Value) (w : World) (hb : w.heap[b]? = some (.cells #[.pointer none, v] 91 (0, 0))) :
    Calls Tryd.prog 124 #[.pointer (some ⟨b, 0, none⟩)] w fun e w' => e = .returned (.tuple #[]) ∧ w.setCell ⟨b, 0, none⟩ (.pointer (some ⟨b, 0, none⟩)) = w' := by
  obtain ⟨j, hj, hjs⟩ := Option.map_eq_some_iff.1 sizeBuilder
  have hc : w.cell? ⟨b, 0, none⟩ = some (.pointer none) := by rw [Lib.cell_of_heap hb]; rfl
  have hf : w.frozen? ⟨b, 0, none⟩ = false := Lib.frozen_of_heap hb 0
  have hsh : w.shape? b = some (91, 2) := by simp [World.shape?, hb]
  go_enter Tryd.func124, Tryd.ntmps124
  go_wp2
  rw [Lib.run_to_unsafe w ⟨b, 0, none⟩ Tryd.underlying89 Tryd.underlying144 hj (by rw [hjs]; decide) hsh (Nat.zero_lt_succ 1)]
  simp only [Result.andThen]
  rw [Oper.upon_value]
  go_wp2
  rw [run_callFunc_extern Tryd.func140 (by kernel_rfl) (by kernel_rfl) (by kernel_rfl) (e := Extern.AbiNoEscape.same) (by kernel_rfl)]
  rw [Lib.run_noEscape]
  simp only [Result.andThen]
  rw [Oper.upon_value]
  go_wp2
  rw [Lib.run_from_unsafe w ⟨b, 0, none⟩ Tryd.underlying144 Tryd.underlying89 hj hsh (by kernel_rfl)]
  simp only [Result.andThen]
  rw [Oper.upon_value]
  go_wp2
  go_end0
  exact ⟨rfl, rfl⟩
set_option maxRecDepth 100000 in
theorem copyCheck_used (b : Nat) (v : Value) (w : World) (hb : w.heap[b]? = some (.cells #[.pointer (some ⟨b, 0, none⟩), v] 91 (0, 0))) :
    Calls Tryd.prog 124 #[.pointer (some ⟨b, 0, none⟩)] w fun e w' => e = .returned (.tuple #[]) ∧ w = w' := by
  obtain ⟨j, hj, _⟩ := Option.map_eq_some_iff.1 sizeBuilder
  have hc : w.cell? ⟨b, 0, none⟩ = some (.pointer (some ⟨b, 0, none⟩)) := by rw [Lib.cell_of_heap hb]; rfl
  go_enter Tryd.func124, Tryd.ntmps124
  go_wp2
  rw [Lib.run_neq_ptr_same w _ Tryd.underlying89 hj]
  go_wp2
  go_end0
  exact ⟨rfl, rfl⟩
theorem copyCheck_any (B b : Nat) (bs : List Value) (w : World) (h : Lib.IsBuilderF 91 5 B b bs w) :
    Calls Tryd.prog 124 #[.pointer (some ⟨b, 0, none⟩)] w fun e w' => e = .returned (.tuple #[]) ∧ (Lib.BuilderAtF 91 5 B b (.pointer (some ⟨b, 0, none⟩)) bs w' ∧ Below B w w' ∧ Lib.OthersKept 5 (some b) w w') := by
  rcases h with h | h
  · have h' := h
    obtain ⟨hB, v, hb, _⟩ := h
    refine (copyCheck_fresh b v w hb).mono ?_
    rintro e w' ⟨rfl, rfl⟩
    exact ⟨rfl, h'.used _, (Below.refl B w).setCell (p := ⟨b, 0, none⟩) hB _, (Lib.OthersKept.refl _ _ w).setCell ⟨b, 0, none⟩ rfl _⟩
  · have h' := h
    obtain ⟨hB, v, hb, _⟩ := h
    refine (copyCheck_used b v w hb).mono ?_
    rintro e w' ⟨rfl, rfl⟩
    exact ⟨rfl, h', Below.refl B _, Lib.OthersKept.refl _ _ _⟩

set_option maxHeartbeats 2000000 in
set_option maxRecDepth 100000 in
theorem writeByte_any (B b : Nat) (bs : List Value) (c : Int) (w : World) (h : Lib.IsBuilderF 91 5 B b bs w) (hlen : bs.length + 1 ≤ 140737488355328) (hBw : B ≤ w.heap.size) :
    Calls Tryd.prog 92 #[.pointer (some ⟨b, 0, none⟩), .int .u8 c] w fun e w' => e = .returned .nilIface ∧ (Lib.BuilderAtF 91 5 B b (.pointer (some ⟨b, 0, none⟩)) (bs ++ [.int .u8 c]) w' ∧ Below B w w' ∧ Lib.OthersKept 5 (some b) w w') := by
  obtain ⟨i0, hi, hz0, hz1, hz2⟩ := info_parts infoByte
  go_enter Tryd.func92, Tryd.ntmps92
  go_wp2_with (go_at_call 124; refine (copyCheck_any B b bs _ h).mono ?_)
  rintro e w1 ⟨rfl, h1, hb1, hk1⟩
  obtain ⟨hB, v, hbk, hown, hne⟩ := h1
  have c0 : w1.cell? ⟨b, 0, none⟩ = some (.pointer (some ⟨b, 0, none⟩)) := by rw [Lib.cell_of_heap hbk]; rfl
  have c1 : w1.cell? ⟨b, 1, none⟩ = some v := by rw [Lib.cell_of_heap hbk]; rfl
  have hsz := hb1.size
  go_wp2_with (at_builtin; refine wpList_append_ownF _ rfl _ _ 30 rfl B 5 i0 (.int .u8 0) 1 1 Tryd.underlying30 hi hz0 hz1 hz2 rfl (by decide) _ _ _ rfl (hown.alloc _) ⟨w1.heap.size, 0, none⟩ 1 1 [.int .u8 c] rfl rfl ?c1 ?c2 ?c3 ?c4 ?c5 ?_)
  case c1 =>
    intro j u hj
    match j, hj with
    | 0, hj => simp at hj; subst hj; simp [Addr.add]
  case c2 => intro u hu; simp at hu; subst hu; rfl
  case c3 => unfold maxLen; omega
  case c4 => omega
  case c5 => simp; omega
  intro v' w2 hown' hgrow _
  have hlt : b < w1.heap.size := by
    rcases Nat.lt_or_ge b w1.heap.size with h' | h'
    · exact h'
    · simp [Array.getElem?_eq_none h'] at hbk
  have hb2 : w2.heap[b]? = some (.cells #[.pointer (some ⟨b, 0, none⟩), v] 91 (0, 0)) := by
    rw [hgrow.block b (by simp; omega) (fun e => hne e.symm), Lib.alloc_old w1 _ b hlt]
    exact hbk
  have d0 : w2.cell? ⟨b, 0, none⟩ = some (.pointer (some ⟨b, 0, none⟩)) := by rw [Lib.cell_of_heap hb2]; rfl
  have d1 : w2.cell? ⟨b, 1, none⟩ = some v := by rw [Lib.cell_of_heap hb2]; rfl
  have f1 : w2.frozen? ⟨b, 1, none⟩ = false := Lib.frozen_of_heap hb2 1
  obtain ⟨g, cap, rfl⟩ : ∃ g cap, v' = .slice (some ⟨g, 0, none⟩) (bs.length + 1) cap := by
    rcases hown'.2 with ⟨_, h0⟩ | ⟨g, cap, cur, fz, hv, _⟩
    · omega
    · exact ⟨g, cap, hv⟩
  go_wp2
  go_ret
  refine ⟨rfl, ?_, ?_, ((hk1.alloc _).grown hgrow (Lib.ownsRowF_kind (hown.alloc _))).setCell ⟨b, 1, none⟩ rfl _⟩
  · exact Lib.BuilderAtF.put (T := 91) (e := 5) hB hb2 (bs' := bs ++ [.int .u8 c]) (by simpa using hown') (by decide)
  · exact ((hb1.alloc (by omega) _).grown hgrow (by simp; omega) (fun k hk => (hown.lt k hk).1)).setCell (p := ⟨b, 1, none⟩) hB _

set_option maxHeartbeats 2000000 in
set_option maxRecDepth 100000 in
theorem writeString_any (B b : Nat) (bs : List Value) (s : ByteArray) (w : World) (h : Lib.IsBuilderF 91 5 B b bs w) (hlen : bs.length + s.size ≤ 140737488355328) (hBw : B ≤ w.heap.size) :
    Calls Tryd.prog 132 #[.pointer (some ⟨b, 0, none⟩), .string s] w fun e w' => e = .returned (.tuple #[.int .i64 s.size, .nilIface]) ∧ (Lib.BuilderAtF 91 5 B b (.pointer (some ⟨b, 0, none⟩)) (bs ++ Lib.strCells s) w' ∧ Below B w w' ∧ Lib.OthersKept 5 (some b) w w') := by
  obtain ⟨i0, hi, hz0, hz1, hz2⟩ := info_parts infoByte
  go_enter Tryd.func132, Tryd.ntmps132
  go_wp2_with (go_at_call 124; refine (copyCheck_any B b bs _ h).mono ?_)
  rintro e w1 ⟨rfl, h1, hb1, hk1⟩
  obtain ⟨hB, v, hbk, hown, hne⟩ := h1
  have c0 : w1.cell? ⟨b, 0, none⟩ = some (.pointer (some ⟨b, 0, none⟩)) := by rw [Lib.cell_of_heap hbk]; rfl
  have c1 : w1.cell? ⟨b, 1, none⟩ = some v := by rw [Lib.cell_of_heap hbk]; rfl
  have hsz := hb1.size
  go_wp2_with (at_builtin; refine Lib.wpList_append_own_stringF _ rfl _ _ 30 9 rfl B 5 i0 Tryd.underlying30 Tryd.underlying9 hi hz0 hz1 hz2 _ _ _ rfl hown s rfl ?c3 ?c4 ?c5 ?_)
  case c3 => unfold maxLen; omega
  case c4 => omega
  case c5 => omega
  intro v' w2 hown' hgrow _
  have hlt : b < w1.heap.size := by
    rcases Nat.lt_or_ge b w1.heap.size with h' | h'
    · exact h'
    · simp [Array.getElem?_eq_none h'] at hbk
  have hb2 : w2.heap[b]? = some (.cells #[.pointer (some ⟨b, 0, none⟩), v] 91 (0, 0)) := by
    rw [hgrow.block b hlt (fun e => hne e.symm)]
    exact hbk
  have d0 : w2.cell? ⟨b, 0, none⟩ = some (.pointer (some ⟨b, 0, none⟩)) := by rw [Lib.cell_of_heap hb2]; rfl
  have d1 : w2.cell? ⟨b, 1, none⟩ = some v := by rw [Lib.cell_of_heap hb2]; rfl
  have f1 : w2.frozen? ⟨b, 1, none⟩ = false := Lib.frozen_of_heap hb2 1
  obtain ⟨ao, n', cap, rfl⟩ : ∃ ao n' cap, v' = .slice ao n' cap := by
    rcases hown'.2 with ⟨hv, _⟩ | ⟨g, cap, cur, fz, hv, _⟩
    · exact ⟨_, _, _, hv⟩
    · exact ⟨_, _, _, hv⟩
  go_wp2
  go_ret2
  refine ⟨rfl, ?_, ?_, (hk1.grown hgrow (Lib.ownsRowF_kind hown)).setCell ⟨b, 1, none⟩ rfl _⟩
  · exact Lib.BuilderAtF.put (T := 91) (e := 5) hB hb2 (bs' := bs ++ Lib.strCells s) (by simpa [Lib.strCells_length] using hown') (by decide)
  · exact (hb1.grown hgrow (by omega) (fun k hk => (hown.lt k hk).1)).setCell (p := ⟨b, 1, none⟩) hB _
end Go.Proofs.YtdgejkiackeieaaDoor
end
section
/- The contracts of the writers of layer 2: Text, Int, Nums, Texts. -/
set_option linter.unusedVariables false
set_option linter.unusedSimpArgs false
namespace Go.Proofs.YtdgejkiackeieaaDoor
/-- The library's package-level variable that a search reads holds an int, in a block of the program's own. -/
structure MaxW (w : World) : Prop where mk :: (max : ∃ m : Int, w.cell? ⟨4, 0, none⟩ = some (.int .i64 m)) (five : 5 ≤ w.heap.size)
theorem MaxW.below {w w' : World} (h : MaxW w) (hb : RowKit.Below w.heap.size w w') : MaxW w' := by
  obtain ⟨⟨m, hm⟩, h5⟩ := h
  exact ⟨⟨m, by rw [hb.cell (p := ⟨4, 0, none⟩) (by show 4 < _; omega)]; exact hm⟩, Nat.le_trans h5 hb.size⟩
end Go.Proofs.YtdgejkiackeieaaDoor
namespace Go.Proofs.YtdgejkiackeieaaDoor.Wr
open Go.RowKit Go.Proofs.YtdgejkiackeieaaDoor Go.Proofs.YtdgejkiackeieaaDoor.PWr Go.Proofs.YtdgejkiackeieaaDoorW.PrintWords Go.Proofs.YtdgejkiackeieaaDoorW.PrintMore
theorem ret_s' {a b : ByteArray} (h : a = b) : Ending.returned (.string a) = .returned (.string b) := by rw [h]
theorem Repl_any (s old new : ByteArray) (w : World) (hM : MaxW w) (hs : s.size ≤ 10000000) (ho : 1 ≤ old.size) (hn : new.size ≤ 1000) :
    Calls Tryd.prog 101 #[.string s, .string old, .string new] w fun e w' => e = .returned (.string (mkB (Lib.replaceAll s.data.toList old.data.toList new.data.toList))) ∧ Below w.heap.size w w' := by
  obtain ⟨⟨m, hm⟩, h5⟩ := hM
  have hc := Lib.countB_mul_le old ho s.size s (Nat.le_refl _)
  have h1 : Lib.countB s old ≤ s.size := Nat.le_trans (Nat.le_mul_of_pos_right _ ho) hc
  have h2 : Lib.countB s old * new.size ≤ 10000000 * 1000 := Nat.mul_le_mul (by omega) hn
  exact Tryd.strings_ReplaceAll s old new m w (by omega) hm ho (by omega)
theorem textB_repl (l : List UInt8) : Lib.replaceAll l [0] [0, 255] ++ [0, 1] = textB l := by
  rw [replaceAll_one]; rfl
set_option maxRecDepth 100000 in
theorem Text_any (s : ByteArray) (w : World) (hM : MaxW w) (hs : s.size ≤ 1000000) : Calls Tryd.prog 40 #[.string s] w fun e w' => e = .returned (.string (mkB (textB s.data.toList))) ∧ Below w.heap.size w w' := by
  have hz : (Lib.replaceAll s.data.toList [0] [0, 255]).length ≤ 3 * s.size := by
    have h := (textB_length s.data.toList).2
    rw [← textB_repl, len_size, List.length_append] at h
    simp only [List.length_cons, List.length_nil] at h
    by_cases h0 : s.size = 0
    · have : s.data.toList = [] := List.eq_nil_of_length_eq_zero (by rw [len_size]; exact h0)
      rw [this, h0]; decide
    · omega
  obtain ⟨R, hR⟩ : ∃ R : ByteArray, mkB (Lib.replaceAll s.data.toList [0] [0, 255]) = R := ⟨_, rfl⟩
  have hRz : R.size ≤ 3000000 := by rw [← hR, mkB_size]; omega
  have hE : mkB (textB s.data.toList) = R ++ (⟨#[0, 1]⟩ : ByteArray) := by
    rw [← hR, ← textB_repl]; exact (mkB_append _ [0, 1]).symm
  have HR := Lib.hid hR
  have HE := Lib.hid hE
  have hb1 : R.size + 2 ≤ 9223372036854775807 := by omega
  clear hR hE hz
  go_enter Tryd.func40, Tryd.ntmps40
  go_wp2_with fail
  refine (Repl_any s ⟨#[0]⟩ ⟨#[0, 255]⟩ w hM (by omega) (by decide) (by decide)).mono ?_
  rw [show mkB (Lib.replaceAll s.data.toList (ByteArray.mk #[0]).data.toList (ByteArray.mk #[0, 255]).data.toList) = R from HR.out]
  rintro e w1 ⟨rfl, hb⟩
  go_wp2
  go_ret
  exact ⟨ret_s' HE.out.symm, hb⟩
theorem Int_any (n : Int) (w : World) (h : InR n) : Calls Tryd.prog 41 #[.int .i64 n] w fun e w' => e = .returned (.string (mkB (intB n))) ∧ Below w.heap.size w w' := by
  obtain ⟨k, hk⟩ := wire_Int_eq n h
  exact wire_Int.calls k n _ w hk
theorem byteCells_str (l : List UInt8) : Lib.byteCells l = l.map fun b => Value.int .u8 (b.toNat : Int) := rfl
theorem builder_kept' {T e : TypeId} {B b : Nat} {bs : List Value} {w w' : World} (h : Lib.IsBuilderF T e B b bs w) (hb : Below w.heap.size w w') : Lib.IsBuilderF T e B b bs w' := by
  have hk : ∀ k, B ≤ k → k < w.heap.size → w'.heap[k]? = w.heap[k]? := fun k _ hlt => hb.block k hlt
  have one : ∀ p, Lib.BuilderAtF T e B b p bs w → Lib.BuilderAtF T e B b p bs w' := by
    rintro p ⟨hB, v, hb, ⟨hl, hv⟩, hne⟩
    refine ⟨hB, v, (hk b hB (Array.getElem?_eq_some_iff.1 hb).1).trans hb, ⟨hl, ?_⟩, hne⟩
    rcases hv with hv | ⟨g, cap, cur, fz, e1, e2, e3, e4⟩
    · exact .inl hv
    · exact .inr ⟨g, cap, cur, fz, e1, e2, (hk g e2 (Array.getElem?_eq_some_iff.1 e3).1).trans e3, e4⟩
  exact h.imp (one _) (one _)
set_option maxHeartbeats 8000000 in
set_option maxRecDepth 100000 in
theorem list110 (A : Option Addr) (c : Nat) (l : List Int) (w : World) (hR : Kd.C (Kd.int .i64) w A l.length l) (hc : l.length ≤ c) (hl : l.length ≤ 1000) (hx : ∀ x ∈ l, InR x) :
    Calls Tryd.prog 110 #[.slice A l.length c, .func (.func 41) #[] #[]] w fun e w' => e = .returned (.string (mkB (listB intB l))) ∧ Below w.heap.size w w' := by
  have HX := Lib.hid hx; have HR := Lib.hid hR
  clear hx hR
  go_enter Tryd.func110, Tryd.ntmps110
  go_wp2
  go_loopw [10] (fun i wr => ∃ k : Nat, k ≤ l.length ∧ i = .int .i64 k ∧ Hid (∃ bs : List UInt8, listB intB l = bs ++ listB intB (l.drop k) ∧ bs.length ≤ 3000000 * k ∧ Lib.IsBuilderF 91 5 w.heap.size w.heap.size (Lib.byteCells bs) wr) ∧ Below w.heap.size w wr) (fun i _ => l.length - (intOf i).toNat)
  case atStart =>
    exact ⟨0, by omega, rfl, Lib.hid ⟨[], rfl, by simp, Lib.IsBuilderF.of (Lib.fresh_isBuilder 91 5 w)⟩, (Below.refl _ w).alloc (Nat.le_refl _) _⟩
  case round =>
    obtain ⟨k, hk, rfl, hbs, hbw⟩ := hrel
    obtain ⟨bs, hbs1, hbs2, hbd⟩ := hbs.out
    have HB1 := Lib.hid hbs1
    have hsz : w.heap.size ≤ wr.heap.size := hbw.size
    clear hbs1 hbs
    by_cases hlt : k < l.length
    · have hxk := HX.out _ (List.getElem_mem hlt)
      have HXK := Lib.hid hxk
      obtain ⟨ad, hA, hcell⟩ := Kd.at_int HR.out (k : Int) (by omega) (by omega)
      subst hA
      have hg : rd l (k : Int) = l[k] := rd_nat k hlt
      rw [hg] at hcell
      have hcell' := (hbw.cell (World.block_lt_of_cell? w _ hcell)).trans hcell
      have hlen : ((intB l[k]).length : Nat) ≤ 2000000 := by have := intB_length _ hxk; omega
      obtain ⟨x, hxe⟩ : ∃ x, l[k] = x := ⟨_, rfl⟩
      rw [hxe] at hcell' HXK hlen
      rw [Int.toNat_natCast] at hcell'
      have HXE := Lib.hid hxe
      have HLT := Lib.hid hlt
      have i1 : (k : Int) < (l.length : Int) := by omega
      have i2 : 0 ≤ (k : Int) := by omega
      clear hcell hg hxk hxe
      go_wp2_with fail
      refine (writeByte_any w.heap.size w.heap.size _ _ _ hbd (by rw [Lib.byteCells_length]; omega) hsz).mono ?_
      rintro e w1 ⟨rfl, h1, b1, _⟩
      have hsz1 : w.heap.size ≤ w1.heap.size := Nat.le_trans hsz b1.size
      have hbw1 := hbw.trans b1
      clear hbd
      go_wp2_with fail
      refine (Int_any x w1 HXK.out).mono ?_
      rintro e w2 ⟨rfl, b2⟩
      have h2 := builder_kept' (Or.inr h1) b2
      have hbw2 := hbw1.trans (b2.mono hsz1)
      have hsz2 : w.heap.size ≤ w2.heap.size := Nat.le_trans hsz1 b2.size
      clear h1
      go_wp2_with fail
      refine (writeString_any w.heap.size w.heap.size _ _ _ h2 (by simp only [List.length_append, Lib.byteCells_length, List.length_cons, List.length_nil, mkB_size]; omega) hsz2).mono ?_
      rintro e w3 ⟨rfl, h3, b3, _⟩
      go_wp2
      go_roundw
      case rel =>
        refine ⟨k + 1, by omega, by go_num, Lib.hid ⟨bs ++ (1 :: intB x), ?_, ?_, ?_⟩, hbw2.trans b3⟩
        · rw [HB1.out, List.drop_eq_getElem_cons HLT.out, listB_cons, HXE.out]; simp
        · simp only [List.length_append, List.length_cons]; omega
        · refine Or.inr ?_
          have e : Lib.byteCells (bs ++ (1 :: intB x)) = Lib.byteCells bs ++ [.int .u8 1] ++ (mkB (intB x)).data.toList.map (fun b => Value.int .u8 (b.toNat : Int)) := by
            rw [Lib.byteCells_append]; simp [Lib.byteCells]
          rw [e]
          exact h3
      case measure => simp [intOf]; omega
    · obtain rfl : k = l.length := by omega
      have HLT := Lib.hid hlt
      have hnl : listB intB l = bs ++ [0] := by rw [HB1.out, List.drop_of_length_le (Nat.le_refl _)]; rfl
      have HNL := Lib.hid hnl
      clear hlt hnl
      go_wp2_with fail
      refine (writeByte_any w.heap.size w.heap.size _ _ _ hbd (by rw [Lib.byteCells_length]; omega) hsz).mono ?_
      rintro e w1 ⟨rfl, h1, b1, _⟩
      have hsz1 : w.heap.size ≤ w1.heap.size := Nat.le_trans hsz b1.size
      have e1 : Lib.byteCells bs ++ [Value.int .u8 0] = Lib.byteCells (bs ++ [0]) := by rw [Lib.byteCells_append]; rfl
      rw [e1] at h1
      clear e1 hbd
      go_wp2_with fail
      refine (Tryd.Builder_String_any_k w.heap.size w.heap.size _ w1 (Or.inr h1) hsz1).mono ?_
      rintro e w2 ⟨rfl, _, b2, _⟩
      go_wp2
      go_ret
      exact ⟨ret_s' (by rw [HNL.out]), (hbw.trans b1).trans b2⟩
#print axioms list110
set_option maxRecDepth 100000 in
theorem Nums_any (A : Option Addr) (c : Nat) (l : List Int) (w : World) (hR : Kd.C (Kd.int .i64) w A l.length l) (hc : l.length ≤ c) (hl : l.length ≤ 1000) (hx : ∀ x ∈ l, InR x) :
    Calls Tryd.prog 53 #[.slice A l.length c] w fun e w' => e = .returned (.string (mkB (listB intB l))) ∧ Below w.heap.size w w' := by
  go_enter Tryd.func53, Tryd.ntmps53
  go_wp2_with fail
  refine (list110 A c l w hR hc hl hx).mono ?_
  rintro e w1 ⟨rfl, hb⟩
  go_wp2
  go_ret
  exact ⟨rfl, hb⟩
set_option maxHeartbeats 8000000 in
set_option maxRecDepth 100000 in
theorem list111 (A : Option Addr) (c : Nat) (l : List ByteArray) (w : World) (hR : Kd.C Kd.string w A l.length l) (hc : l.length ≤ c) (hl : l.length ≤ 1000) (hx : ∀ x ∈ l, x.size ≤ 500000) (hM : MaxW w) :
    Calls Tryd.prog 111 #[.slice A l.length c, .func (.func 40) #[] #[]] w fun e w' => e = .returned (.string (mkB (listB (fun (s : ByteArray) => textB s.data.toList) l))) ∧ Below w.heap.size w w' := by
  have HX := Lib.hid hx; have HR := Lib.hid hR; have HM := Lib.hid hM
  clear hx hR hM
  go_enter Tryd.func111, Tryd.ntmps111
  go_wp2
  go_loopw [10] (fun i wr => ∃ k : Nat, k ≤ l.length ∧ i = .int .i64 k ∧ Hid (∃ bs : List UInt8, listB (fun (s : ByteArray) => textB s.data.toList) l = bs ++ listB (fun (s : ByteArray) => textB s.data.toList) (l.drop k) ∧ bs.length ≤ 3000000 * k ∧ Lib.IsBuilderF 91 5 w.heap.size w.heap.size (Lib.byteCells bs) wr) ∧ Below w.heap.size w wr) (fun i _ => l.length - (intOf i).toNat)
  case atStart =>
    exact ⟨0, by omega, rfl, Lib.hid ⟨[], rfl, by simp, Lib.IsBuilderF.of (Lib.fresh_isBuilder 91 5 w)⟩, (Below.refl _ w).alloc (Nat.le_refl _) _⟩
  case round =>
    obtain ⟨k, hk, rfl, hbs, hbw⟩ := hrel
    obtain ⟨bs, hbs1, hbs2, hbd⟩ := hbs.out
    have HB1 := Lib.hid hbs1
    have hsz : w.heap.size ≤ wr.heap.size := hbw.size
    clear hbs1 hbs
    by_cases hlt : k < l.length
    · have hxk := HX.out _ (List.getElem_mem hlt)
      have HXK := Lib.hid hxk
      obtain ⟨ad, hA, hcell⟩ := Kd.at_string HR.out (k : Int) (by omega) (by omega)
      subst hA
      have hg : rdOf ByteArray.empty l (k : Int) = l[k] := rdOf_nat k hlt
      rw [hg] at hcell
      have hcell' := (hbw.cell (World.block_lt_of_cell? w _ hcell)).trans hcell
      have hlen : (((fun (s : ByteArray) => textB s.data.toList) l[k]).length : Nat) ≤ 2000000 := by have := (textB_length (l[k]).data.toList).2; rw [len_size] at this; show (textB (l[k]).data.toList).length ≤ _; omega
      obtain ⟨x, hxe⟩ : ∃ x, l[k] = x := ⟨_, rfl⟩
      rw [hxe] at hcell' HXK hlen
      rw [Int.toNat_natCast] at hcell'
      have HXE := Lib.hid hxe
      have HLT := Lib.hid hlt
      have i1 : (k : Int) < (l.length : Int) := by omega
      have i2 : 0 ≤ (k : Int) := by omega
      clear hcell hg hxk hxe
      go_wp2_with fail
      refine (writeByte_any w.heap.size w.heap.size _ _ _ hbd (by rw [Lib.byteCells_length]; omega) hsz).mono ?_
      rintro e w1 ⟨rfl, h1, b1, _⟩
      have hsz1 : w.heap.size ≤ w1.heap.size := Nat.le_trans hsz b1.size
      have hbw1 := hbw.trans b1
      clear hbd
      go_wp2_with fail
      refine (Text_any x w1 (HM.out.below hbw1) (by have := HXK.out; omega)).mono ?_
      rintro e w2 ⟨rfl, b2⟩
      have h2 := builder_kept' (Or.inr h1) b2
      have hbw2 := hbw1.trans (b2.mono hsz1)
      have hsz2 : w.heap.size ≤ w2.heap.size := Nat.le_trans hsz1 b2.size
      clear h1
      go_wp2_with fail
      refine (writeString_any w.heap.size w.heap.size _ _ _ h2 (by simp only [List.length_append, Lib.byteCells_length, List.length_cons, List.length_nil, mkB_size]; omega) hsz2).mono ?_
      rintro e w3 ⟨rfl, h3, b3, _⟩
      go_wp2
      go_roundw
      case rel =>
        refine ⟨k + 1, by omega, by go_num, Lib.hid ⟨bs ++ (1 :: (fun (s : ByteArray) => textB s.data.toList) x), ?_, ?_, ?_⟩, hbw2.trans b3⟩
        · rw [HB1.out, List.drop_eq_getElem_cons HLT.out, listB_cons, HXE.out]; simp
        · simp only [List.length_append, List.length_cons]; omega
        · refine Or.inr ?_
          have e : Lib.byteCells (bs ++ (1 :: (fun (s : ByteArray) => textB s.data.toList) x)) = Lib.byteCells bs ++ [.int .u8 1] ++ (mkB ((fun (s : ByteArray) => textB s.data.toList) x)).data.toList.map (fun b => Value.int .u8 (b.toNat : Int)) := by
            rw [Lib.byteCells_append]; simp [Lib.byteCells]
          rw [e]
          exact h3
      case measure => simp [intOf]; omega
    · obtain rfl : k = l.length := by omega
      have HLT := Lib.hid hlt
      have hnl : listB (fun (s : ByteArray) => textB s.data.toList) l = bs ++ [0] := by rw [HB1.out, List.drop_of_length_le (Nat.le_refl _)]; rfl
      have HNL := Lib.hid hnl
      clear hlt hnl
      go_wp2_with fail
      refine (writeByte_any w.heap.size w.heap.size _ _ _ hbd (by rw [Lib.byteCells_length]; omega) hsz).mono ?_
      rintro e w1 ⟨rfl, h1, b1, _⟩
      have hsz1 : w.heap.size ≤ w1.heap.size := Nat.le_trans hsz b1.size
      have e1 : Lib.byteCells bs ++ [Value.int .u8 0] = Lib.byteCells (bs ++ [0]) := by rw [Lib.byteCells_append]; rfl
      rw [e1] at h1
      clear e1 hbd
      go_wp2_with fail
      refine (Tryd.Builder_String_any_k w.heap.size w.heap.size _ w1 (Or.inr h1) hsz1).mono ?_
      rintro e w2 ⟨rfl, _, b2, _⟩
      go_wp2
      go_ret
      exact ⟨ret_s' (by rw [HNL.out]), (hbw.trans b1).trans b2⟩
#print axioms list111
set_option maxRecDepth 100000 in
theorem Texts_any (A : Option Addr) (c : Nat) (l : List ByteArray) (w : World) (hR : Kd.C Kd.string w A l.length l) (hc : l.length ≤ c) (hl : l.length ≤ 1000) (hx : ∀ x ∈ l, x.size ≤ 500000) (hM : MaxW w) :
    Calls Tryd.prog 55 #[.slice A l.length c] w fun e w' => e = .returned (.string (mkB (listB (fun (s : ByteArray) => textB s.data.toList) l))) ∧ Below w.heap.size w w' := by
  go_enter Tryd.func55, Tryd.ntmps55
  go_wp2_with fail
  refine (list111 A c l w hR hc hl hx hM).mono ?_
  rintro e w1 ⟨rfl, hb⟩
  go_wp2
  go_ret
  exact ⟨rfl, hb⟩
end Go.Proofs.YtdgejkiackeieaaDoor.Wr
end
section
/- What the rows of the other laws need: the world's shape beside the laid tables, and how slices are opened. -/
set_option linter.unusedVariables false
namespace Go.Proofs.YtdgejkiackeieaaDoor
open Go.RowKit Go.ChangeShapes
theorem returns_shaped {H : Type} {enc : TypeId × Value → H} {a : Assume} {C : Checked} {os : Os} {f : FuncId} {fn : Func} {s : ChangeSpec} {conds : List PathCond} {apart fresh handsOn again : Bool} {X : World → Array Value → Prop}
    (hX : ∀ (w w' : World) (args : Array Value), w.heap = w'.heap → X w args → X w' args)
    (own : ownKnob C.prog.godebug = none) (started : os.Started) (noInit : C.prog.inits.idxOf? f = none) (hfn : C.prog.funcs[f]? = some fn)
    (witness : ∃ (w : World) (tape : Tape) (i : Input), w.os = os ∧ (w.forCall tape i).Shaped C.prog ∧ i.vars = [] ∧ Input.okWide C.prog (w.forCall tape i) .any w.heap.size f i ∧
      ((s.pre enc C.prog fn conds apart (w.forCall tape i).memory i.args ∧ X (w.forCall tape i).memory i.args) ∧ sizedMet enc C.prog fn (OpenSpec.ofChange s) apart (w.forCall tape i).memory i.args) ∧ a.holds C.prog (lone (Frame.enter C.prog f i.args .normal) [] (w.forCall tape i)))
    (contract : ∀ (W : World) (base : Nat) (args : Array Value) (ds gs : List (DataW H)) (before : List MemPlace),
      (∀ (j : Nat) t v, fn.params[j]? = some t → args[j]? = some v → Value.okWide C.prog W .any base t v) →
      DataW.Whole enc C.prog fn.params.toList s.vars apart W args.toList ds gs before →
      conds.all (PathCond.test C.prog ⟨fn.params.toList, ds, s.plain.varTypes C.prog, gs⟩) = true →
      (DataW.weightsEach C.prog (fn.params.toList ++ s.plain.varTypes C.prog) (ds ++ gs)).all (· ≤ reachBytes) = true → X W args →
      W.ShapedOpen C.prog →
      Calls C.prog f args W fun e W' => ∃ v, e = .returned v ∧ s.post enc C.prog fn apart fresh handsOn again W args v W') :
    ReturnsInHanded a C os f .any (fun w args => (s.pre enc C.prog fn conds apart w args ∧ X w args) ∧ sizedMet enc C.prog fn (OpenSpec.ofChange s) apart w args) (s.post enc C.prog fn apart fresh handsOn again) := by
  refine returnsInHanded_of_calls own started noInit witness ?_
  intro w tape i _ hsh _ hok hpre hholds
  obtain ⟨_, _, _, fn', hfn', _, _, _, _, hval⟩ := hok
  have e : fn' = fn := Option.some.inj (hfn'.symm.trans hfn)
  subst e
  obtain ⟨⟨⟨ds, gs, before, hw, hc⟩, hx⟩, hz⟩ := hpre
  have hw' := DataW.Whole.of_heap (w' := w.forCall tape i) (by rfl) hw
  refine (contract (w.forCall tape i) w.heap.size i.args ds gs before hval hw' hc (hz.weights hw) (hX _ _ _ (by rfl) hx) hsh).mono fun e W' ⟨v, he, hp⟩ => ?_
  subst he
  exact ChangeSpec.post_blind hp
theorem maxw_of_shape {W : World} (hsh : W.ShapedOpen Tryd.prog) : MaxW W := by
  obtain ⟨m, hm⟩ := cell_of_shapedOpen_int (P := Tryd.prog) (g := 4) (t := 3) (zero := #[.int .i64 0]) hsh (of_decide_eq_true (by kernel_rfl)) (by kernel_rfl) rfl (by kernel_rfl) (by kernel_rfl) Tryd.underlying3
  exact ⟨⟨m, hm⟩, World.block_lt_of_cell? W _ hm⟩
/-- A row of whole numbers, as the calls take it. -/
def IsRow (k : IntKind) (w : World) (a : Option Addr) (len cap : Nat) (zs : List Int) : Prop :=
  (a = none ∧ len = 0 ∧ cap = 0 ∧ zs = []) ∨
  ∃ x, a = some x ∧ len ≤ cap ∧ cap ≤ maxLen ∧ zs.length = cap ∧ (∀ i, i < zs.length → w.cell? (x.add i) = some (.int k (zs.getD i 0))) ∧ ∀ n ∈ zs, (Lit.int k n).wf = true
theorem isrow_of {H : Type} {enc : TypeId × Value → H} {W : World} {t e : TypeId} {k : IntKind} {a : Option Addr} {len cap : Nat} {d : DataW H} {p : List MemPlace} (ht : Tryd.prog.underlying t = some (.slice e)) (he : Tryd.prog.underlying e = some (.int k)) (hc : Tryd.prog.cellsOf e = 1)
    (h : ∃ fuel, DataW.trod enc Tryd.prog W 0 (fun _ => true) true fuel t (Value.cells (.slice a len cap)).toList = some (d, p)) : ∃ zs, IsRow k W a len cap zs := by
  obtain ⟨fuel, hf⟩ := h
  rcases open_ints ht he hc hf with ⟨hcs, _⟩ | ⟨x, l, c, zs, hcs, _, hl, hm, hz, _, hcell, hwz⟩
  · simp [Value.cells] at hcs
    obtain ⟨rfl, rfl, rfl⟩ := hcs
    exact ⟨[], .inl ⟨rfl, rfl, rfl, rfl⟩⟩
  · simp [Value.cells] at hcs
    obtain ⟨rfl, rfl, rfl⟩ := hcs
    exact ⟨zs, .inr ⟨_, rfl, hl, hm, by simpa using hz, hcell, hwz⟩⟩
theorem u8_of_wf {x : Int} (h : (Lit.int .u8 x).wf = true) : 0 ≤ x ∧ x < 256 := by
  have : 0 ≤ x ∧ x ≤ 255 := by simpa [Lit.wf, IntKind.min, IntKind.max, IntKind.signed, IntKind.bits] using h
  omega
end Go.Proofs.YtdgejkiackeieaaDoor
end
section
/- The contract of the reader's Text (layer 2). -/
set_option linter.unusedVariables false
set_option linter.unusedSimpArgs false
namespace Go.Proofs.YtdgejkiackeieaaDoor.Wr
open Go.RowKit Go.Proofs.YtdgejkiackeieaaDoor Go.Proofs.YtdgejkiackeieaaDoor.PWr Go.Proofs.YtdgejkiackeieaaDoorW.PrintWords Go.Proofs.YtdgejkiackeieaaDoorW.PrintMore
/-- What a call leaves of the world: the reader's block apart, all that was there is as it was. -/
structure Lf (w0 w w' : World) (g : Nat) (s : ByteArray) (bad : Bool) : Prop where
  is : IsS117 w0 w' g s bad
  below : Below w0.heap.size w0 w'
  keep : KeepBut w w' g none
theorem KeepBut.trans_ {w w1 w2 : World} {g : Nat} (h : KeepBut w w1 g none) (k : KeepBut w1 w2 g none) : KeepBut w w2 g none := h.trans k (Or.inl rfl)
theorem Lf.trans {w0 w w1 w2 : World} {g : Nat} {s t : ByteArray} {bad bad' : Bool} (h : Lf w0 w w1 g s bad) (k : Lf w0 w1 w2 g t bad') : Lf w0 w w2 g t bad' := ⟨k.is, k.below, KeepBut.trans_ h.keep k.keep⟩
theorem Lf.more {w0 w w1 w2 : World} {g : Nat} {s : ByteArray} {bad : Bool} (h : Lf w0 w w1 g s bad) (B : Nat) (hB : w1.heap.size ≤ B ∨ (w.heap.size ≤ B ∧ g < B)) (hb : Below B w1 w2) : Lf w0 w w2 g s bad := by
  have hg : g < w1.heap.size := h.is.lt
  have hge := h.is.ge
  have hk := h.keep.1
  have hw0 := h.below.size
  refine ⟨⟨(hb.block g (by rcases hB with h | h <;> omega)).trans h.is.1, h.is.2⟩, h.below.trans (hb.mono (by rcases hB with h | h <;> omega)), ?_⟩
  refine ⟨Nat.le_trans hk hb.size, fun i hi hig _ => ?_⟩
  rw [hb.block i (by rcases hB with h | h <;> omega)]
  exact h.keep.2 i hi hig (by simp)
theorem byte_c (w0 w : World) (g : Nat) (s : ByteArray) (bad : Bool) (hI : IsS117 w0 w g s bad) (hB : Below w0.heap.size w0 w) (c : UInt8) (t : List UInt8) (cI : Int) (hl : s.data.toList = c :: t) (hc : (c.toNat : Int) = cI) :
    Calls Tryd.prog 117 #[.pointer (some ⟨g, 0, none⟩)] w fun e w' => e = .returned (.tuple #[.int .u8 cI, .bool true]) ∧ Lf w0 w w' g (mkB t) bad := by
  subst hc
  exact (wire_Reader_byte.calls g s bad _ _ _ _ w0 w hI hB (byte_cons s bad c t hl)).mono fun e w' ⟨he, h1, h2, h3⟩ => ⟨he, h1, h2, h3⟩
theorem byte_n (w0 w : World) (g : Nat) (s : ByteArray) (bad : Bool) (hI : IsS117 w0 w g s bad) (hB : Below w0.heap.size w0 w) (hl : s.data.toList = []) :
    Calls Tryd.prog 117 #[.pointer (some ⟨g, 0, none⟩)] w fun e w' => e = .returned (.tuple #[.int .u8 0, .bool false]) ∧ Lf w0 w w' g (mkB []) true :=
  (wire_Reader_byte.calls g s bad _ _ _ _ w0 w hI hB (byte_nil s bad hl)).mono fun e w' ⟨he, h1, h2, h3⟩ => ⟨he, h1, h2, h3⟩
theorem fail_c (w0 w : World) (g : Nat) (s : ByteArray) (bad : Bool) (hI : IsS117 w0 w g s bad) (hB : Below w0.heap.size w0 w) :
    Calls Tryd.prog 115 #[.pointer (some ⟨g, 0, none⟩)] w fun e w' => e = .returned (.tuple #[]) ∧ Lf w0 w w' g (mkB []) true :=
  (wire_Reader_fail.calls g s bad _ _ w0 w hI hB rfl).mono fun e w' ⟨he, h1, h2, h3⟩ => ⟨he, h1, h2, h3⟩
theorem byteCells_snoc (pre : List UInt8) (c : UInt8) : Lib.byteCells (pre ++ [c]) = Lib.byteCells pre ++ [.int .u8 (c.toNat : Int)] := by rw [Lib.byteCells_append]; rfl
theorem builder_kept {T e : TypeId} {B b : Nat} {bs : List Value} {w w' : World} (h : Lib.IsBuilderF T e B b bs w) (hk : ∀ k, B ≤ k → k < w.heap.size → w'.heap[k]? = w.heap[k]?) : Lib.IsBuilderF T e B b bs w' := by
  have one : ∀ p, Lib.BuilderAtF T e B b p bs w → Lib.BuilderAtF T e B b p bs w' := by
    rintro p ⟨hB, v, hb, ⟨hl, hv⟩, hne⟩
    refine ⟨hB, v, (hk b hB (Array.getElem?_eq_some_iff.1 hb).1).trans hb, ⟨hl, ?_⟩, hne⟩
    rcases hv with hv | ⟨g, cap, cur, fz, e1, e2, e3, e4⟩
    · exact .inl hv
    · exact .inr ⟨g, cap, cur, fz, e1, e2, (hk g e2 (Array.getElem?_eq_some_iff.1 e3).1).trans e3, e4⟩
  exact h.imp (one _) (one _)
theorem Lf.old {w0 w w' : World} {g : Nat} {s : ByteArray} {bad : Bool} (h : Lf w0 w w' g s bad) (B : Nat) (hg : g < B) : ∀ k, B ≤ k → k < w.heap.size → w'.heap[k]? = w.heap[k]? := fun k hk hlt => h.keep.2 k hlt (by omega) (by simp)
theorem ret_s {a b : ByteArray} (h : a = b) : Ending.returned (.string a) = .returned (.string b) := by rw [h]
theorem ne_int (c : UInt8) (n : Nat) (hn : n < 256) (h : ¬ c = UInt8.ofNat n) : ¬ (c.toNat : Int) = (n : Int) := fun h' => h ((byte_eq_iff c n hn).1 h')
set_option maxHeartbeats 8000000 in
set_option maxRecDepth 100000 in
theorem RText_any (g : Nat) (s : ByteArray) (bad : Bool) (w0 w : World) (hI : IsS117 w0 w g s bad) (hB : Below w0.heap.size w0 w) (hs : s.size ≤ 1000000) :
    Calls Tryd.prog 74 #[.pointer (some ⟨g, 0, none⟩)] w fun e w' => e = .returned (.string (rdrS (textR s.data.toList) bad).1) ∧ Lf w0 w w' g (rdrS (textR s.data.toList) bad).2.1 (rdrS (textR s.data.toList) bad).2.2 := by
  have hg := hI.lt
  have hz : s.size = s.data.toList.length := (len_size s).symm
  have HI := Lib.hid hI; have HB := Lib.hid hB; have HZ := Lib.hid hz
  clear hI hB hz
  go_enter Tryd.func74, Tryd.ntmps74
  go_wp2
  go_loopg [] (s.size + 1) (fun gk wr => ∃ (pre : List UInt8) (q : ByteArray), Hid (Lf w0 w wr g q bad) ∧ Lib.IsBuilderF 91 5 w.heap.size w.heap.size (Lib.byteCells pre) wr ∧ w.heap.size ≤ wr.heap.size ∧ pre.length + q.data.toList.length ≤ 1000000 ∧ q.data.toList.length < gk ∧ Hid (rdrSp pre (textR q.data.toList) bad = rdrS (textR s.data.toList) bad))
  case atStart =>
    refine ⟨[], s, Lib.hid ?_, Lib.IsBuilderF.of (Lib.fresh_isBuilder 91 5 w), by simp, by rw [← HZ.out]; simp; exact hs, by rw [← HZ.out]; omega, Lib.hid ?_⟩
    · exact Lf.more ⟨HI.out, HB.out, KeepBut.refl w g none⟩ w.heap.size (Or.inl (Nat.le_refl _)) ((Below.refl _ _).alloc (Nat.le_refl _) _)
    · cases textR s.data.toList <;> rfl
  case round =>
    obtain ⟨pre, q, hL, hbd, hsz, hlen, hgk, hR⟩ := hrel
    cases gk with
    | zero => omega
    | succ gk =>
      cases hq : q.data.toList with
      | nil =>
        have HQ := Lib.hid hq
        clear hq
        go_wp2_with (go_at_call 117; refine (byte_n w0 _ g q bad hL.out.is hL.out.below HQ.out).mono ?_; rintro e w1 ⟨rfl, h1⟩)
        go_ret
        have e := hR.out
        rw [HQ.out] at e
        exact ⟨ret_s (by rw [← e]; rfl), by rw [← e]; exact hL.out.trans h1⟩
      | cons c t =>
        rw [hq] at hlen hgk
        simp only [List.length_cons] at hlen hgk
        have e := hR.out
        rw [hq] at e
        have HQ := Lib.hid hq
        clear hq hR
        obtain ⟨cI, hcI⟩ : ∃ cI : Int, (c.toNat : Int) = cI := ⟨_, rfl⟩
        by_cases h0 : c = 0
        · have hz0 : (cI != 0) = false := by rw [← hcI, h0]; rfl
          cases ht : t with
          | nil =>
            subst ht
            have HE := Lib.hid e
            have HC := Lib.hid hcI
            clear e hcI h0
            go_wp2_with (go_at_call 117; refine (byte_c w0 _ g q bad hL.out.is hL.out.below c [] cI HQ.out HC.out).mono ?_; rintro e w1 ⟨rfl, h1⟩)
            have H1 := Lib.hid h1
            clear h1
            go_wp2_with (go_at_call 117; refine (byte_n w0 _ g (mkB []) bad H1.out.is H1.out.below rfl).mono ?_; rintro e w2 ⟨rfl, h2⟩)
            have H2 := Lib.hid h2
            clear h2
            go_wp2_with (go_at_call 115; refine (fail_c w0 _ g (mkB []) true H2.out.is H2.out.below).mono ?_; rintro e w3 ⟨rfl, h3⟩)
            go_ret
            have e := HE.out
            exact ⟨ret_s (by rw [← e]; rfl), by rw [← e]; exact ((hL.out.trans H1.out).trans H2.out).trans h3⟩
          | cons d t' =>
            subst ht
            simp only [List.length_cons] at hlen hgk
            obtain ⟨dI, hdI⟩ : ∃ dI : Int, (d.toNat : Int) = dI := ⟨_, rfl⟩
            have hd0 : 0 ≤ dI := by omega
            rw [h0, textR, if_pos rfl] at e
            by_cases h255 : d = 255
            · have k1 : (dI == 255) = true := by rw [← hdI, h255]; rfl
              rw [if_pos h255] at e
              have HE := Lib.hid e
              have HC := Lib.hid hcI
              have HD := Lib.hid hdI
              clear e hcI hdI h0 h255
              go_wp2_with (go_at_call 117; refine (byte_c w0 _ g q bad hL.out.is hL.out.below c (d :: t') cI HQ.out HC.out).mono ?_; rintro e w1 ⟨rfl, h1⟩)
              have H1 := Lib.hid h1
              clear h1
              go_wp2_with (go_at_call 117; refine (byte_c w0 _ g (mkB (d :: t')) bad H1.out.is H1.out.below d t' dI rfl HD.out).mono ?_; rintro e w2 ⟨rfl, h2⟩)
              have hbd2 := builder_kept (builder_kept hbd (Lf.old H1.out w.heap.size hg)) (fun k hk hlt => Lf.old h2 w.heap.size hg k hk hlt)
              have hL2 := (hL.out.trans H1.out).trans h2
              have hsz2 : w.heap.size ≤ w2.heap.size := hL2.keep.1
              have H2 := Lib.hid hL2
              clear h2 hL2
              go_wp2_with (go_at_call 92; refine (writeByte_any w.heap.size w.heap.size _ _ _ hbd2 (by rw [Lib.byteCells_length]; omega) hsz2).mono ?_; rintro e w3 ⟨rfl, h3, b3, _⟩)
              go_roundg gk
              case measure => omega
              case rel =>
                refine ⟨pre ++ [0], mkB t', Lib.hid (H2.out.more w.heap.size (Or.inr ⟨Nat.le_refl _, hg⟩) b3), ?_, Nat.le_trans hsz2 b3.size, ?_, ?_, Lib.hid ?_⟩
                · rw [byteCells_snoc]; exact Or.inr h3
                · rw [mkB_list, List.length_append, List.length_singleton]; omega
                · rw [mkB_list]; omega
                · rw [← HE.out, rdrSp_map]
            · have k1 : (dI == 255) = false := by
                rw [← hdI]; exact beq_eq_false_iff_ne.2 (ne_int d 255 (by decide) h255)
              rw [if_neg h255] at e
              by_cases h1' : d = 1
              · have k2 : (dI == 1) = true := by rw [← hdI, h1']; rfl
                rw [if_pos h1'] at e
                have HE := Lib.hid e
                have HC := Lib.hid hcI
                have HD := Lib.hid hdI
                clear e hcI hdI h0 h255 h1'
                go_wp2_with (go_at_call 117; refine (byte_c w0 _ g q bad hL.out.is hL.out.below c (d :: t') cI HQ.out HC.out).mono ?_; rintro e w1 ⟨rfl, h1⟩)
                have H1 := Lib.hid h1
                clear h1
                go_wp2_with (go_at_call 117; refine (byte_c w0 _ g (mkB (d :: t')) bad H1.out.is H1.out.below d t' dI rfl HD.out).mono ?_; rintro e w2 ⟨rfl, h2⟩)
                have hbd2 := builder_kept (builder_kept hbd (Lf.old H1.out w.heap.size hg)) (fun k hk hlt => Lf.old h2 w.heap.size hg k hk hlt)
                have hL2 := (hL.out.trans H1.out).trans h2
                have hsz2 : w.heap.size ≤ w2.heap.size := hL2.keep.1
                have H2 := Lib.hid hL2
                clear h2 hL2
                go_wp2_with (go_at_call 93; refine (Tryd.Builder_String_any_k w.heap.size w.heap.size _ w2 hbd2 hsz2).mono ?_; rintro e w3 ⟨rfl, _, b3, _⟩)
                go_ret
                have e := HE.out
                refine ⟨ret_s (by rw [← e]; show _ = mkB (pre ++ []); rw [List.append_nil]), ?_⟩
                rw [← e]
                exact H2.out.more w.heap.size (Or.inr ⟨Nat.le_refl _, hg⟩) b3
              · have k2 : (dI == 1) = false := by
                  rw [← hdI]; exact beq_eq_false_iff_ne.2 (ne_int d 1 (by decide) h1')
                rw [if_neg h1'] at e
                have HE := Lib.hid e
                have HC := Lib.hid hcI
                have HD := Lib.hid hdI
                clear e hcI hdI h0 h255 h1'
                go_wp2_with (go_at_call 117; refine (byte_c w0 _ g q bad hL.out.is hL.out.below c (d :: t') cI HQ.out HC.out).mono ?_; rintro e w1 ⟨rfl, h1⟩)
                have H1 := Lib.hid h1
                clear h1
                go_wp2_with (go_at_call 117; refine (byte_c w0 _ g (mkB (d :: t')) bad H1.out.is H1.out.below d t' dI rfl HD.out).mono ?_; rintro e w2 ⟨rfl, h2⟩)
                have H2 := Lib.hid h2
                clear h2
                go_wp2_with (go_at_call 115; refine (fail_c w0 _ g (mkB t') bad H2.out.is H2.out.below).mono ?_; rintro e w3 ⟨rfl, h3⟩)
                go_ret
                have e := HE.out
                exact ⟨ret_s (by rw [← e]; rfl), by rw [← e]; exact ((hL.out.trans H1.out).trans H2.out).trans h3⟩
        · have hz0 : (cI != 0) = true := by
            rw [← hcI]; exact bne_iff_ne.2 (ne_int c 0 (by decide) h0)
          rw [textR_ne c h0] at e
          have HE := Lib.hid e
          have HC := Lib.hid hcI
          clear e hcI h0
          go_wp2_with (go_at_call 117; refine (byte_c w0 _ g q bad hL.out.is hL.out.below c t cI HQ.out HC.out).mono ?_; rintro e w1 ⟨rfl, h1⟩)
          have hbd1 := builder_kept hbd (Lf.old h1 w.heap.size hg)
          have hL1 := hL.out.trans h1
          have hsz1 : w.heap.size ≤ w1.heap.size := hL1.keep.1
          have H1 := Lib.hid hL1
          clear h1 hL1
          go_wp2_with (go_at_call 92; refine (writeByte_any w.heap.size w.heap.size _ _ _ hbd1 (by rw [Lib.byteCells_length]; omega) hsz1).mono ?_; rintro e w2 ⟨rfl, h2, b2, _⟩)
          go_roundg gk
          case measure => omega
          case rel =>
            refine ⟨pre ++ [c], mkB t, Lib.hid (H1.out.more w.heap.size (Or.inr ⟨Nat.le_refl _, hg⟩) b2), ?_, Nat.le_trans hsz1 b2.size, ?_, ?_, Lib.hid ?_⟩
            · rw [byteCells_snoc, HC.out]; exact Or.inr h2
            · rw [mkB_list, List.length_append, List.length_singleton]; omega
            · rw [mkB_list]; omega
            · rw [← HE.out, rdrSp_map]
#print axioms RText_any
end Go.Proofs.YtdgejkiackeieaaDoor.Wr
end
section
/- The contracts of the readers of lists (layer 2). -/
set_option linter.unusedVariables false
set_option linter.unusedSimpArgs false
namespace Go.Proofs.YtdgejkiackeieaaDoor.Wr
open Go.RowKit Go.Proofs.YtdgejkiackeieaaDoor Go.Proofs.YtdgejkiackeieaaDoor.PWr Go.Proofs.YtdgejkiackeieaaDoorW.PrintWords Go.Proofs.YtdgejkiackeieaaDoorW.PrintMore
theorem RInt_any (g : Nat) (s : ByteArray) (bad : Bool) (w0 w : World) (hI : IsS117 w0 w g s bad) (hB : Below w0.heap.size w0 w) (hs : s.size ≤ 1000000) :
    Calls Tryd.prog 72 #[.pointer (some ⟨g, 0, none⟩)] w fun e w' => e = .returned (.int .i64 (rdr (intR s.data.toList) 0 bad).1) ∧ Lf w0 w w' g (rdr (intR s.data.toList) 0 bad).2.1 (rdr (intR s.data.toList) 0 bad).2.2 := by
  obtain ⟨k, hk⟩ := Reader_Int_eq s hs bad
  exact (wire_Reader_Int.calls k g s bad _ _ _ w0 w hI hB hk).mono fun e w' ⟨he, h1, h2, h3⟩ => ⟨he, h1, h2, h3⟩
theorem own_kept {e : TypeId} {B size n : Nat} {v : Value} {xs : List Value} {w w' : World} (h : w.ownsRow B e size v n xs) (hk : ∀ k, B ≤ k → k < w.heap.size → w'.heap[k]? = w.heap[k]?) : w'.ownsRow B e size v n xs := by
  obtain ⟨hl, hv⟩ := h
  refine ⟨hl, ?_⟩
  rcases hv with hv | ⟨g, cap, cur, e1, e2, e3, e4⟩
  · exact .inl hv
  · exact .inr ⟨g, cap, cur, e1, e2, (hk g e2 (Array.getElem?_eq_some_iff.1 e3).1).trans e3, e4⟩
theorem own_ge {e : TypeId} {B size n : Nat} {v : Value} {xs : List Value} {w : World} (h : w.ownsRow B e size v n xs) : ∀ k, v.ownBlock = some k → B ≤ k := by
  intro k hk
  rcases h.2 with ⟨hv, _⟩ | ⟨g, cap, cur, e1, e2, _⟩
  · rw [hv] at hk; cases hk
  · rw [e1] at hk
    have : g = k := by simpa [Value.ownBlock] using hk
    omega
theorem cells_one (w : World) (u : Value) (t : TypeId) : ∀ j v, ([u] : List Value)[j]? = some v → (w.alloc (.cells #[u] t)).cell? ((⟨w.heap.size, 0, none⟩ : Addr).add j) = some v := by
  intro j v hj
  match j, hj with
  | 0, hj => simp at hj; subst hj; simp [Addr.add]
theorem Okr.cons {s : ByteArray} {bad : Bool} (h : Okr s bad) {c : UInt8} {t : List UInt8} (hl : s.data.toList = c :: t) : bad = false := by
  cases bad with
  | false => rfl
  | true => rw [h rfl] at hl; cases hl
theorem RText_as (s : ByteArray) (bad : Bool) : (rdrS (textR s.data.toList) bad) = match textR s.data.toList with | some (x, r) => (mkB x, mkB r, bad) | none => (mkB [], mkB [], true) := rfl
theorem info3 : (Tryd.prog.info? 3).map (fun i => (i.zero, i.size, i.bytes)) = some (some (.int .i64 0), 1, 8) := by kernel_rfl
set_option maxHeartbeats 8000000 in
set_option maxRecDepth 100000 in
theorem elems118 (g : Nat) (s : ByteArray) (bad : Bool) (hok : Okr s bad) (w0 w : World) (hI : IsS117 w0 w g s bad) (hB : Below w0.heap.size w0 w) (hs : s.size ≤ 100000) :
    Calls Tryd.prog 118 #[.pointer (some ⟨g, 0, none⟩), .func (.func 72) #[.pointer (some ⟨g, 0, none⟩)] #[]] w fun e w' => ∃ v0_ : Value, e = .returned v0_ ∧ Kd.R (Kd.int .i64) 3 w' w.heap.size (fun _ => True) v0_ (rdrL (fun (n : Int) => n) [] (numsR s.data.toList) bad).1 ∧
      Lf w0 w w' g (rdrL (fun (n : Int) => n) [] (numsR s.data.toList) bad).2.1 (rdrL (fun (n : Int) => n) [] (numsR s.data.toList) bad).2.2 := by
  have hg := hI.lt
  obtain ⟨i0, hi, hz0, hz1, hz2⟩ := info_parts info3
  have hz : s.size = s.data.toList.length := (len_size s).symm
  have HI := Lib.hid hI; have HB := Lib.hid hB; have HZ := Lib.hid hz; have HOK := Lib.hid hok
  clear hI hB hz hok
  go_enter Tryd.func118, Tryd.ntmps118
  go_wp2
  go_loopg [5] (s.data.toList.length + 1) (fun gk v5 wr => ∃ (acc : List Int) (q : ByteArray), Hid (Lf w0 w wr g q bad) ∧ Hid (Okr q bad) ∧ wr.ownsRow w.heap.size 3 1 v5 acc.length (acc.map (Value.int .i64)) ∧ w.heap.size ≤ wr.heap.size ∧ acc.length + q.data.toList.length ≤ 100000 ∧ q.data.toList.length < gk ∧ Hid (rdrL (fun (n : Int) => n) acc (listR intR gk q.data.toList) bad = rdrL (fun (n : Int) => n) [] (numsR s.data.toList) bad))
  case atStart => exact ⟨[], s, Lib.hid ⟨HI.out, HB.out, KeepBut.refl w g none⟩, HOK, World.ownsRow_nil _ _ _ _, Nat.le_refl _, by rw [← HZ.out]; simp; exact hs, by omega, Lib.hid rfl⟩
  case round =>
    obtain ⟨acc, q, hL, hQk, hown, hsz, hlen, hgk, hR⟩ := hrel
    cases gk with
    | zero => omega
    | succ gk =>
      cases hq : q.data.toList with
      | nil =>
        have HQ := Lib.hid hq
        clear hq
        go_wp2_with (go_at_call 117; refine (byte_n w0 _ g q bad hL.out.is hL.out.below HQ.out).mono ?_; rintro e w1 ⟨rfl, h1⟩)
        go_ret
        have e := hR.out
        rw [HQ.out] at e
        refine ⟨_, rfl, ?_⟩
        rw [← e]
        exact ⟨Kd.R_nil _ _ _ _ _, hL.out.trans h1⟩
      | cons c t =>
        obtain rfl := hQk.out.cons hq
        rw [hq] at hlen hgk
        simp only [List.length_cons] at hlen hgk
        have e := hR.out
        rw [hq, listR] at e
        have HQ := Lib.hid hq
        clear hq hR
        obtain ⟨cI, hcI⟩ : ∃ cI : Int, (c.toNat : Int) = cI := ⟨_, rfl⟩
        by_cases h0 : c = 0
        · have k0 : (cI == 0) = true := by rw [← hcI, h0]; rfl
          rw [if_pos h0] at e
          have HE := Lib.hid e
          have HC := Lib.hid hcI
          clear e hcI h0
          go_wp2_with (go_at_call 117; refine (byte_c w0 _ g q false hL.out.is hL.out.below c t cI HQ.out HC.out).mono ?_; rintro e w1 ⟨rfl, h1⟩)
          go_ret
          have e := HE.out
          refine ⟨_, rfl, ?_⟩
          rw [← e]
          show Kd.R _ _ _ _ _ _ (acc ++ []) ∧ _
          rw [List.append_nil]
          exact ⟨Kd.R_of_own (h1 := fun _ => rfl) (own_kept hown (Lf.old h1 w.heap.size hg)) (fun _ _ => trivial), hL.out.trans h1⟩
        · have k0 : (cI == 0) = false := by rw [← hcI]; exact beq_eq_false_iff_ne.2 (ne_int c 0 (by decide) h0)
          rw [if_neg h0] at e
          by_cases h1 : c = 1
          · have k1 : (cI != 1) = false := by rw [← hcI, h1]; rfl
            rw [if_pos h1] at e
            have HC := Lib.hid hcI
            clear hcI h0 h1
            cases ho : intR t with
            | none =>
              rw [ho] at e
              have HE := Lib.hid e
              have HO : Hid (rdr (intR (mkB t).data.toList) (0 : Int) false = ((0 : Int), mkB [], true)) := Lib.hid (by rw [mkB_list, ho]; rfl)
              clear e ho
              go_wp2_with (go_at_call 117; refine (byte_c w0 _ g q false hL.out.is hL.out.below c t cI HQ.out HC.out).mono ?_; rintro e w1 ⟨rfl, h1⟩)
              have hown1 := own_kept hown (Lf.old h1 w.heap.size hg)
              have H1 := Lib.hid (hL.out.trans h1)
              clear h1 hown
              go_wp2_with fail
              refine (RInt_any g (mkB t) false w0 _ H1.out.is H1.out.below (by rw [mkB_size]; omega)).mono ?_
              rw [HO.out]
              rintro e w2 ⟨rfl, h2⟩
              have hown2 := own_kept hown1 (Lf.old h2 w.heap.size hg)
              have H2 := Lib.hid (H1.out.trans h2)
              have hsz2 : w.heap.size ≤ w2.heap.size := H2.out.keep.1
              clear h2 hown1
              go_wp2_with (at_builtin; refine wpList_append_own _ rfl _ _ 48 rfl w.heap.size 3 i0 (.int .i64 0) 1 8 Tryd.underlying48 hi hz0 hz1 hz2 rfl (by decide) _ _ _ rfl (hown2.alloc _) ⟨w2.heap.size, 0, none⟩ 1 1 [(Value.int .i64) (0 : Int)] rfl rfl ?c1 ?c2 ?c3 ?c4 ?c5 ?_)
              case c1 => exact cells_one _ _ _
              case c2 => intro u hu; simp at hu; subst hu; rfl
              case c3 => unfold maxLen; omega
              case c4 => omega
              case c5 => simp; omega
              intro v' w3 hown' hgrow _
              have hb3 : Below w.heap.size w2 w3 := ((Below.refl w.heap.size w2).alloc hsz2 _).grown hgrow (by simp; omega) (own_ge hown2)
              have H3 := Lib.hid (H2.out.more w.heap.size (Or.inr ⟨Nat.le_refl _, hg⟩) hb3)
              have hbc := cellS117_1 H3.out.is.1
              clear hown2 hown' hgrow hb3
              go_wp2
              go_ret
              have e := HE.out
              refine ⟨_, rfl, ?_⟩
              rw [← e]
              exact ⟨Kd.R_nil _ _ _ _ _, H3.out⟩
            | some p =>
              obtain ⟨x, r⟩ := p
              rw [ho] at e
              have hr := intR_length t x r ho
              have HE := Lib.hid e
              have HO : Hid (rdr (intR (mkB t).data.toList) (0 : Int) false = (x, mkB r, false)) := Lib.hid (by rw [mkB_list, ho]; rfl)
              clear e ho
              go_wp2_with (go_at_call 117; refine (byte_c w0 _ g q false hL.out.is hL.out.below c t cI HQ.out HC.out).mono ?_; rintro e w1 ⟨rfl, h1⟩)
              have hown1 := own_kept hown (Lf.old h1 w.heap.size hg)
              have H1 := Lib.hid (hL.out.trans h1)
              clear h1 hown
              go_wp2_with fail
              refine (RInt_any g (mkB t) false w0 _ H1.out.is H1.out.below (by rw [mkB_size]; omega)).mono ?_
              rw [HO.out]
              rintro e w2 ⟨rfl, h2⟩
              have hown2 := own_kept hown1 (Lf.old h2 w.heap.size hg)
              have H2 := Lib.hid (H1.out.trans h2)
              have hsz2 : w.heap.size ≤ w2.heap.size := H2.out.keep.1
              clear h2 hown1
              go_wp2_with (at_builtin; refine wpList_append_own _ rfl _ _ 48 rfl w.heap.size 3 i0 (.int .i64 0) 1 8 Tryd.underlying48 hi hz0 hz1 hz2 rfl (by decide) _ _ _ rfl (hown2.alloc _) ⟨w2.heap.size, 0, none⟩ 1 1 [(Value.int .i64) x] rfl rfl ?c1 ?c2 ?c3 ?c4 ?c5 ?_)
              case c1 => exact cells_one _ _ _
              case c2 => intro u hu; simp at hu; subst hu; rfl
              case c3 => unfold maxLen; omega
              case c4 => omega
              case c5 => simp; omega
              intro v' w3 hown' hgrow _
              have hb3 : Below w.heap.size w2 w3 := ((Below.refl w.heap.size w2).alloc hsz2 _).grown hgrow (by simp; omega) (own_ge hown2)
              have H3 := Lib.hid (H2.out.more w.heap.size (Or.inr ⟨Nat.le_refl _, hg⟩) hb3)
              have hbc := cellS117_1 H3.out.is.1
              have hsz3 : w.heap.size ≤ w3.heap.size := H3.out.keep.1
              clear hown2 hgrow hb3
              go_wp2
              go_roundg gk
              case measure => omega
              case rel =>
                refine ⟨acc ++ [x], mkB r, H3, Lib.hid (fun h => by cases h), ?_, hsz3, ?_, ?_, Lib.hid ?_⟩
                · rw [List.length_append, List.length_singleton, List.map_append]; exact hown'
                · rw [mkB_list, List.length_append, List.length_singleton]; omega
                · rw [mkB_list]; omega
                · rw [← HE.out]; exact (rdrL_map (fun (n : Int) => n) acc x _ false).symm
          · have k1 : (cI != 1) = true := by rw [← hcI]; exact bne_iff_ne.2 (ne_int c 1 (by decide) h1)
            rw [if_neg h1] at e
            have HE := Lib.hid e
            have HC := Lib.hid hcI
            clear e hcI h0 h1
            go_wp2_with (go_at_call 117; refine (byte_c w0 _ g q false hL.out.is hL.out.below c t cI HQ.out HC.out).mono ?_; rintro e w1 ⟨rfl, h1⟩)
            have H1 := Lib.hid (hL.out.trans h1)
            clear h1
            go_wp2_with (go_at_call 115; refine (fail_c w0 _ g (mkB t) false H1.out.is H1.out.below).mono ?_; rintro e w2 ⟨rfl, h2⟩)
            go_ret
            have e := HE.out
            refine ⟨_, rfl, ?_⟩
            rw [← e]
            exact ⟨Kd.R_nil _ _ _ _ _, H1.out.trans h2⟩
#print axioms elems118
set_option maxRecDepth 100000 in
theorem RNums_any (g : Nat) (s : ByteArray) (bad : Bool) (hok : Okr s bad) (w0 w : World) (hI : IsS117 w0 w g s bad) (hB : Below w0.heap.size w0 w) (hs : s.size ≤ 100000) :
    Calls Tryd.prog 77 #[.pointer (some ⟨g, 0, none⟩)] w fun e w' => ∃ v0_ : Value, e = .returned v0_ ∧ Kd.R (Kd.int .i64) 3 w' w.heap.size (fun _ => True) v0_ (rdrL (fun (n : Int) => n) [] (numsR s.data.toList) bad).1 ∧
      Lf w0 w w' g (rdrL (fun (n : Int) => n) [] (numsR s.data.toList) bad).2.1 (rdrL (fun (n : Int) => n) [] (numsR s.data.toList) bad).2.2 := by
  go_enter Tryd.func77, Tryd.ntmps77
  go_wp2_with (go_at_call 118; refine (elems118 g s bad hok w0 w hI hB hs).mono ?_; rintro e w1 ⟨v0, rfl, h1, h2⟩)
  go_ret
  exact ⟨_, rfl, h1, h2⟩
theorem info9 : (Tryd.prog.info? 9).map (fun i => (i.zero, i.size, i.bytes)) = some (some (.string ⟨#[]⟩), 1, 16) := by kernel_rfl
set_option maxHeartbeats 8000000 in
set_option maxRecDepth 100000 in
theorem elems120 (g : Nat) (s : ByteArray) (bad : Bool) (hok : Okr s bad) (w0 w : World) (hI : IsS117 w0 w g s bad) (hB : Below w0.heap.size w0 w) (hs : s.size ≤ 100000) :
    Calls Tryd.prog 120 #[.pointer (some ⟨g, 0, none⟩), .func (.func 74) #[.pointer (some ⟨g, 0, none⟩)] #[]] w fun e w' => ∃ v0_ : Value, e = .returned v0_ ∧ Kd.R Kd.string 9 w' w.heap.size (fun _ => True) v0_ (rdrL mkB [] (textsR s.data.toList) bad).1 ∧
      Lf w0 w w' g (rdrL mkB [] (textsR s.data.toList) bad).2.1 (rdrL mkB [] (textsR s.data.toList) bad).2.2 := by
  have hg := hI.lt
  obtain ⟨i0, hi, hz0, hz1, hz2⟩ := info_parts info9
  have hz : s.size = s.data.toList.length := (len_size s).symm
  have HI := Lib.hid hI; have HB := Lib.hid hB; have HZ := Lib.hid hz; have HOK := Lib.hid hok
  clear hI hB hz hok
  go_enter Tryd.func120, Tryd.ntmps120
  go_wp2
  go_loopg [5] (s.data.toList.length + 1) (fun gk v5 wr => ∃ (acc : List ByteArray) (q : ByteArray), Hid (Lf w0 w wr g q bad) ∧ Hid (Okr q bad) ∧ wr.ownsRow w.heap.size 9 1 v5 acc.length (acc.map Value.string) ∧ w.heap.size ≤ wr.heap.size ∧ acc.length + q.data.toList.length ≤ 100000 ∧ q.data.toList.length < gk ∧ Hid (rdrL mkB acc (listR textR gk q.data.toList) bad = rdrL mkB [] (textsR s.data.toList) bad))
  case atStart => exact ⟨[], s, Lib.hid ⟨HI.out, HB.out, KeepBut.refl w g none⟩, HOK, World.ownsRow_nil _ _ _ _, Nat.le_refl _, by rw [← HZ.out]; simp; exact hs, by omega, Lib.hid rfl⟩
  case round =>
    obtain ⟨acc, q, hL, hQk, hown, hsz, hlen, hgk, hR⟩ := hrel
    cases gk with
    | zero => omega
    | succ gk =>
      cases hq : q.data.toList with
      | nil =>
        have HQ := Lib.hid hq
        clear hq
        go_wp2_with (go_at_call 117; refine (byte_n w0 _ g q bad hL.out.is hL.out.below HQ.out).mono ?_; rintro e w1 ⟨rfl, h1⟩)
        go_ret
        have e := hR.out
        rw [HQ.out] at e
        refine ⟨_, rfl, ?_⟩
        rw [← e]
        exact ⟨Kd.R_nil _ _ _ _ _, hL.out.trans h1⟩
      | cons c t =>
        obtain rfl := hQk.out.cons hq
        rw [hq] at hlen hgk
        simp only [List.length_cons] at hlen hgk
        have e := hR.out
        rw [hq, listR] at e
        have HQ := Lib.hid hq
        clear hq hR
        obtain ⟨cI, hcI⟩ : ∃ cI : Int, (c.toNat : Int) = cI := ⟨_, rfl⟩
        by_cases h0 : c = 0
        · have k0 : (cI == 0) = true := by rw [← hcI, h0]; rfl
          rw [if_pos h0] at e
          have HE := Lib.hid e
          have HC := Lib.hid hcI
          clear e hcI h0
          go_wp2_with (go_at_call 117; refine (byte_c w0 _ g q false hL.out.is hL.out.below c t cI HQ.out HC.out).mono ?_; rintro e w1 ⟨rfl, h1⟩)
          go_ret
          have e := HE.out
          refine ⟨_, rfl, ?_⟩
          rw [← e]
          show Kd.R _ _ _ _ _ _ (acc ++ []) ∧ _
          rw [List.append_nil]
          exact ⟨Kd.R_of_own (h1 := fun _ => rfl) (own_kept hown (Lf.old h1 w.heap.size hg)) (fun _ _ => trivial), hL.out.trans h1⟩
        · have k0 : (cI == 0) = false := by rw [← hcI]; exact beq_eq_false_iff_ne.2 (ne_int c 0 (by decide) h0)
          rw [if_neg h0] at e
          by_cases h1 : c = 1
          · have k1 : (cI != 1) = false := by rw [← hcI, h1]; rfl
            rw [if_pos h1] at e
            have HC := Lib.hid hcI
            clear hcI h0 h1
            cases ho : textR t with
            | none =>
              rw [ho] at e
              have HE := Lib.hid e
              have HO : Hid (rdrS (textR (mkB t).data.toList)  false = ((mkB []), mkB [], true)) := Lib.hid (by rw [mkB_list, ho]; rfl)
              clear e ho
              go_wp2_with (go_at_call 117; refine (byte_c w0 _ g q false hL.out.is hL.out.below c t cI HQ.out HC.out).mono ?_; rintro e w1 ⟨rfl, h1⟩)
              have hown1 := own_kept hown (Lf.old h1 w.heap.size hg)
              have H1 := Lib.hid (hL.out.trans h1)
              clear h1 hown
              go_wp2_with fail
              refine (RText_any g (mkB t) false w0 _ H1.out.is H1.out.below (by rw [mkB_size]; omega)).mono ?_
              rw [HO.out]
              rintro e w2 ⟨rfl, h2⟩
              have hown2 := own_kept hown1 (Lf.old h2 w.heap.size hg)
              have H2 := Lib.hid (H1.out.trans h2)
              have hsz2 : w.heap.size ≤ w2.heap.size := H2.out.keep.1
              clear h2 hown1
              go_wp2_with (at_builtin; refine wpList_append_own _ rfl _ _ 40 rfl w.heap.size 9 i0 (.string ⟨#[]⟩) 1 16 Tryd.underlying40 hi hz0 hz1 hz2 rfl (by decide) _ _ _ rfl (hown2.alloc _) ⟨w2.heap.size, 0, none⟩ 1 1 [Value.string (mkB [])] rfl rfl ?c1 ?c2 ?c3 ?c4 ?c5 ?_)
              case c1 => exact cells_one _ _ _
              case c2 => intro u hu; simp at hu; subst hu; rfl
              case c3 => unfold maxLen; omega
              case c4 => omega
              case c5 => simp; omega
              intro v' w3 hown' hgrow _
              have hb3 : Below w.heap.size w2 w3 := ((Below.refl w.heap.size w2).alloc hsz2 _).grown hgrow (by simp; omega) (own_ge hown2)
              have H3 := Lib.hid (H2.out.more w.heap.size (Or.inr ⟨Nat.le_refl _, hg⟩) hb3)
              have hbc := cellS117_1 H3.out.is.1
              clear hown2 hown' hgrow hb3
              go_wp2
              go_ret
              have e := HE.out
              refine ⟨_, rfl, ?_⟩
              rw [← e]
              exact ⟨Kd.R_nil _ _ _ _ _, H3.out⟩
            | some p =>
              obtain ⟨x, r⟩ := p
              rw [ho] at e
              have hr := textR_length t x r ho
              have HE := Lib.hid e
              have HO : Hid (rdrS (textR (mkB t).data.toList)  false = ((mkB x), mkB r, false)) := Lib.hid (by rw [mkB_list, ho]; rfl)
              clear e ho
              go_wp2_with (go_at_call 117; refine (byte_c w0 _ g q false hL.out.is hL.out.below c t cI HQ.out HC.out).mono ?_; rintro e w1 ⟨rfl, h1⟩)
              have hown1 := own_kept hown (Lf.old h1 w.heap.size hg)
              have H1 := Lib.hid (hL.out.trans h1)
              clear h1 hown
              go_wp2_with fail
              refine (RText_any g (mkB t) false w0 _ H1.out.is H1.out.below (by rw [mkB_size]; omega)).mono ?_
              rw [HO.out]
              rintro e w2 ⟨rfl, h2⟩
              have hown2 := own_kept hown1 (Lf.old h2 w.heap.size hg)
              have H2 := Lib.hid (H1.out.trans h2)
              have hsz2 : w.heap.size ≤ w2.heap.size := H2.out.keep.1
              clear h2 hown1
              go_wp2_with (at_builtin; refine wpList_append_own _ rfl _ _ 40 rfl w.heap.size 9 i0 (.string ⟨#[]⟩) 1 16 Tryd.underlying40 hi hz0 hz1 hz2 rfl (by decide) _ _ _ rfl (hown2.alloc _) ⟨w2.heap.size, 0, none⟩ 1 1 [Value.string (mkB x)] rfl rfl ?c1 ?c2 ?c3 ?c4 ?c5 ?_)
              case c1 => exact cells_one _ _ _
              case c2 => intro u hu; simp at hu; subst hu; rfl
              case c3 => unfold maxLen; omega
              case c4 => omega
              case c5 => simp; omega
              intro v' w3 hown' hgrow _
              have hb3 : Below w.heap.size w2 w3 := ((Below.refl w.heap.size w2).alloc hsz2 _).grown hgrow (by simp; omega) (own_ge hown2)
              have H3 := Lib.hid (H2.out.more w.heap.size (Or.inr ⟨Nat.le_refl _, hg⟩) hb3)
              have hbc := cellS117_1 H3.out.is.1
              have hsz3 : w.heap.size ≤ w3.heap.size := H3.out.keep.1
              clear hown2 hgrow hb3
              go_wp2
              go_roundg gk
              case measure => omega
              case rel =>
                refine ⟨acc ++ [(mkB x)], mkB r, H3, Lib.hid (fun h => by cases h), ?_, hsz3, ?_, ?_, Lib.hid ?_⟩
                · rw [List.length_append, List.length_singleton, List.map_append]; exact hown'
                · rw [mkB_list, List.length_append, List.length_singleton]; omega
                · rw [mkB_list]; omega
                · rw [← HE.out]; exact (rdrL_map mkB acc x _ false).symm
          · have k1 : (cI != 1) = true := by rw [← hcI]; exact bne_iff_ne.2 (ne_int c 1 (by decide) h1)
            rw [if_neg h1] at e
            have HE := Lib.hid e
            have HC := Lib.hid hcI
            clear e hcI h0 h1
            go_wp2_with (go_at_call 117; refine (byte_c w0 _ g q false hL.out.is hL.out.below c t cI HQ.out HC.out).mono ?_; rintro e w1 ⟨rfl, h1⟩)
            have H1 := Lib.hid (hL.out.trans h1)
            clear h1
            go_wp2_with (go_at_call 115; refine (fail_c w0 _ g (mkB t) false H1.out.is H1.out.below).mono ?_; rintro e w2 ⟨rfl, h2⟩)
            go_ret
            have e := HE.out
            refine ⟨_, rfl, ?_⟩
            rw [← e]
            exact ⟨Kd.R_nil _ _ _ _ _, H1.out.trans h2⟩
#print axioms elems120
set_option maxRecDepth 100000 in
theorem RTexts_any (g : Nat) (s : ByteArray) (bad : Bool) (hok : Okr s bad) (w0 w : World) (hI : IsS117 w0 w g s bad) (hB : Below w0.heap.size w0 w) (hs : s.size ≤ 100000) :
    Calls Tryd.prog 80 #[.pointer (some ⟨g, 0, none⟩)] w fun e w' => ∃ v0_ : Value, e = .returned v0_ ∧ Kd.R Kd.string 9 w' w.heap.size (fun _ => True) v0_ (rdrL mkB [] (textsR s.data.toList) bad).1 ∧
      Lf w0 w w' g (rdrL mkB [] (textsR s.data.toList) bad).2.1 (rdrL mkB [] (textsR s.data.toList) bad).2.2 := by
  go_enter Tryd.func80, Tryd.ntmps80
  go_wp2_with (go_at_call 120; refine (elems120 g s bad hok w0 w hI hB hs).mono ?_; rintro e w1 ⟨v0, rfl, h1, h2⟩)
  go_ret
  exact ⟨_, rfl, h1, h2⟩
end Go.Proofs.YtdgejkiackeieaaDoor.Wr
end
section
/- The contract of the reference's reader's Int, Num, Nums (layer 2). -/
set_option linter.unusedVariables false
set_option linter.unusedSimpArgs false
namespace Go.Proofs.YtdgejkiackeieaaDoor.Wr
open Go.RowKit Go.Proofs.YtdgejkiackeieaaDoor Go.Proofs.YtdgejkiackeieaaDoor.PWr Go.Proofs.YtdgejkiackeieaaDoorW.PrintWords Go.Proofs.YtdgejkiackeieaaDoorW.PrintMore Go.Proofs.YtdgejkiackeieaaDoorW.PrintLast
/-- What a call leaves of the world: the reference's reader's block apart, all that was there is as it was. -/
structure Lg (w0 w w' : World) (g : Nat) (s : ByteArray) (bad : Bool) : Prop where
  is : IsS119 w0 w' g s bad
  below : Below w0.heap.size w0 w'
  keep : KeepBut w w' g none
theorem Lg.trans {w0 w w1 w2 : World} {g : Nat} {s t : ByteArray} {bad bad' : Bool} (h : Lg w0 w w1 g s bad) (k : Lg w0 w1 w2 g t bad') : Lg w0 w w2 g t bad' := ⟨k.is, k.below, KeepBut.trans_ h.keep k.keep⟩
theorem Lg.more {w0 w w1 w2 : World} {g : Nat} {s : ByteArray} {bad : Bool} (h : Lg w0 w w1 g s bad) (B : Nat) (hB : w1.heap.size ≤ B ∨ (w.heap.size ≤ B ∧ g < B)) (hb : Below B w1 w2) : Lg w0 w w2 g s bad := by
  have hg : g < w1.heap.size := h.is.lt
  have hge := h.is.ge
  have hk := h.keep.1
  have hw0 := h.below.size
  refine ⟨⟨(hb.block g (by rcases hB with h | h <;> omega)).trans h.is.1, h.is.2⟩, h.below.trans (hb.mono (by rcases hB with h | h <;> omega)), ?_⟩
  refine ⟨Nat.le_trans hk hb.size, fun i hi hig _ => ?_⟩
  rw [hb.block i (by rcases hB with h | h <;> omega)]
  exact h.keep.2 i hi hig (by simp)
theorem Lg.old {w0 w w' : World} {g : Nat} {s : ByteArray} {bad : Bool} (h : Lg w0 w w' g s bad) (B : Nat) (hg : g < B) : ∀ k, B ≤ k → k < w.heap.size → w'.heap[k]? = w.heap[k]? := fun k hk hlt => h.keep.2 k hlt (by omega) (by simp)
theorem fail_r (w0 w : World) (g : Nat) (s : ByteArray) (bad : Bool) (hI : IsS119 w0 w g s bad) (hB : Below w0.heap.size w0 w) :
    Calls Tryd.prog 116 #[.pointer (some ⟨g, 0, none⟩)] w fun e w' => e = .returned (.tuple #[]) ∧ Lg w0 w w' g (mkB []) true :=
  (bourneref02_Reader_fail.calls g s bad _ _ w0 w hI hB rfl).mono fun e w' ⟨he, h1, h2, h3⟩ => ⟨he, h1, h2, h3⟩
theorem first_byte (s : ByteArray) (c : UInt8) (t : List UInt8) (h : s.data.toList = c :: t) : ∀ h : 0 < s.size, ((s[0]'h).toNat : Int) = (c.toNat : Int) := by
  intro hh
  have := bt_get s 0 (by rw [h]; simp)
  simp only [h] at this
  exact (bt_at s 0 hh).trans this
theorem ext_l {s t : ByteArray} (h : s.toList = t.toList) : s = t := ext_ (by rw [← ByteArray.toList_eq, h, ByteArray.toList_eq])
theorem extract_take (s : ByteArray) (n : Nat) : s.extract 0 n = mkB (s.data.toList.take n) := by
  apply ext_
  rw [Lib.extract_data, mkB_list]; simp
theorem byte_of (c : UInt8) (n : Nat) (h : c.toNat = n) : UInt8.ofNat n = c := by rw [← h, UInt8.ofNat_toNat]
theorem same_pos (c : UInt8) (t : List UInt8) (kk u : Nat) (hc : c.toNat = 128 + kk) (hl : kk ≤ t.length) (hu : beV (mk1 false (t.take kk)) = u) (hb : u < 9223372036854775808) : intB (u : Int) = c :: t.take kk ↔ mlen u = kk := by
  have h8 := mlen_le8 (pow8 hb)
  have hlt : (t.take kk).length = kk := by rw [List.length_take]; omega
  rw [intB_pos]
  constructor
  · intro h
    have := congrArg UInt8.toNat (List.cons.inj h).1
    rw [UInt8.toNat_ofNat', Nat.mod_eq_of_lt (by omega)] at this
    omega
  · intro h
    have := beR_beV (t.take kk)
    rw [hlt, show beV (t.take kk) = u from hu] at this
    rw [h, this, byte_of c _ hc]
theorem same_neg (c : UInt8) (t : List UInt8) (kk u : Nat) (hc : c.toNat + kk = 127) (hl : kk ≤ t.length) (hu : beV (mk1 true (t.take kk)) = u) (hb : u < 9223372036854775808) : intB (-1 - (u : Int)) = c :: t.take kk ↔ mlen u = kk := by
  have h8 := mlen_le8 (pow8 hb)
  have hlt : ((t.take kk).map inv).length = kk := by rw [List.length_map, List.length_take]; omega
  rw [intB_neg]
  constructor
  · intro h
    have := congrArg UInt8.toNat (List.cons.inj h).1
    rw [UInt8.toNat_ofNat', Nat.mod_eq_of_lt (by omega)] at this
    omega
  · intro h
    have := beR_beV ((t.take kk).map inv)
    rw [hlt, show beV ((t.take kk).map inv) = u from hu] at this
    rw [h, this, map_inv_inv, byte_of c (127 - kk) (by omega)]
theorem fin_ok (neg : Bool) (kk u : Nat) (t : List UInt8) (bad : Bool) (hu : beV (mk1 neg (t.take kk)) = u) (h1 : mlen u = kk) (h2 : u < 9223372036854775808) : fin neg kk t bad = (if neg then -1 - (u : Int) else (u : Int), mkB (t.drop kk), bad) := by
  unfold fin; rw [hu, if_neg (by omega)]
theorem fin_no (neg : Bool) (kk u : Nat) (t : List UInt8) (bad : Bool) (hu : beV (mk1 neg (t.take kk)) = u) (h : mlen u ≠ kk ∨ 9223372036854775808 ≤ u) : fin neg kk t bad = (0, mkB [], true) := by
  unfold fin; rw [hu, if_pos h]
set_option maxHeartbeats 8000000 in
set_option maxRecDepth 100000 in
theorem RInt73_pos (g : Nat) (s : ByteArray) (bad : Bool) (w0 w : World) (hI : IsS119 w0 w g s bad) (hB : Below w0.heap.size w0 w) (hs : s.size ≤ 1000000) (c : UInt8) (t : List UInt8) (hl : s.data.toList = c :: t) (xI : Int) (hxI : (c.toNat : Int) = xI) (kk : Nat) (hkk : xI - 128 = (kk : Int)) (hsg : ¬ xI < 128) :
    Calls Tryd.prog 73 #[.pointer (some ⟨g, 0, none⟩)] w fun e w' => e = .returned (.int .i64 (if kk > 8 ∨ kk > t.length then ((0 : Int), mkB [], true) else fin false kk t bad).1) ∧ Lg w0 w w' g (if kk > 8 ∨ kk > t.length then ((0 : Int), mkB [], true) else fin false kk t bad).2.1 (if kk > 8 ∨ kk > t.length then ((0 : Int), mkB [], true) else fin false kk t bad).2.2 := by
  have hz : s.size = t.length + 1 := by rw [← len_size, hl]; rfl
  have hc := c.toNat_lt; have hcx := hxI
  have hx := first_byte s c t hl
  rw [hxI] at hx
  have hne := toList_cons s c t hl
  have c2b0 : (s.toList == ([] : List UInt8)) = false := beq_eq_false_iff_ne.mpr hne
  have q7 : 0 < s.size := by omega
  have qi7 : (0 < (s.size : Int)) = True := eq_true (by omega)
  have q8 : (0 < s.size) = True := eq_true q7
  have x0 : 0 ≤ xI := by omega
  have x1 : xI < 256 := by omega
  have w1 : wrap64 xI = xI := w64 (by omega) (by omega)
  obtain ⟨HG, hg0⟩ := hI
  have hcz0 := cellS119_0 HG
  have hcz1 := cellS119_1 HG
  have hfz0 := blk_frozen HG 0
  have hfz1 := blk_frozen HG 1
  have HIs := Lib.hid (⟨HG, hg0⟩ : IsS119 w0 w g s bad); have HB := Lib.hid hB; have HL := Lib.hid hl
  clear HG hg0 hB hl hne hxI hc
  by_cases h8 : kk > 8
  · rw [if_pos (Or.inl h8)]
    have b8 : (8 : Int) < (kk : Int) := by omega
    go_enter Tryd.func73, Tryd.ntmps73
    go_wp2_with (go_at_call 116; refine (fail_r w0 _ g s bad HIs.out HB.out).mono ?_; rintro e w1 ⟨rfl, h1⟩)
    go_ret
    exact ⟨rfl, h1⟩
  by_cases hlen : kk > t.length
  · rw [if_pos (Or.inr hlen)]
    have b8 : ¬ (8 : Int) < (kk : Int) := by omega
    have b9 : (s.size : Int) < 1 + (kk : Int) := by omega
    go_enter Tryd.func73, Tryd.ntmps73
    go_wp2_with (go_at_call 116; refine (fail_r w0 _ g s bad HIs.out HB.out).mono ?_; rintro e w1 ⟨rfl, h1⟩)
    go_ret
    exact ⟨rfl, h1⟩
  rw [if_neg (show ¬ (kk > 8 ∨ kk > t.length) by omega)]
  have b8 : ¬ (8 : Int) < (kk : Int) := by omega
  have b9 : ¬ (s.size : Int) < 1 + (kk : Int) := by omega
  go_enter Tryd.func73, Tryd.ntmps73
  go_wp2
  go_loopw [5, 6, 7] (fun v5 v6 v7 wr => ∃ i : Nat, 1 ≤ i ∧ i ≤ kk + 1 ∧ v5 = .int .u64 (beV (mk1 false (t.take (i - 1))) : Int) ∧ v6 = .int .i64 (i : Int) ∧ wr = w) (fun _ v6 _ _ => kk + 1 - (intOf v6).toNat)
  case atStart => exact ⟨1, by omega, by omega, rfl, rfl, rfl⟩
  case round =>
    obtain ⟨i, i1, i2, rfl, rfl, rfl⟩ := hrel
    obtain ⟨u, hu⟩ : ∃ u : Nat, beV (mk1 false (t.take (i - 1))) = u := ⟨_, rfl⟩
    rw [hu]
    by_cases hik : i ≤ kk
    · have hil : i - 1 < t.length := by omega
      obtain ⟨b, hb⟩ : ∃ b : UInt8, t[i - 1] = b := ⟨_, rfl⟩
      have hb256 := b.toNat_lt
      have hxb : ∀ h : i < s.size, ((s[i]'h).toNat : Int) = (b.toNat : Int) := by
        intro hh
        have h1 := bt_get s i (by rw [HL.out]; simp only [List.length_cons]; omega)
        have h2 : s.data.toList[i]'(by rw [HL.out]; simp only [List.length_cons]; omega) = b := by
          simp only [HL.out]; rw [List.getElem_cons, dif_neg (by omega)]; exact hb
        rw [h2] at h1
        exact (bt_at s (i : Int) hh).trans h1
      have hv := beV_lt (mk1 false (t.take (i - 1)))
      rw [hu, mk1_length, List.length_take, Nat.min_eq_left (by omega)] at hv
      have hv7 : 256 ^ (i - 1) ≤ 2 ^ 56 := Nat.le_trans (Nat.pow_le_pow_right (by decide) (show i - 1 ≤ 7 by omega)) (by decide)
      have hu2 : u < 72057594037927936 := Nat.lt_of_lt_of_le hv hv7
      have hT : beV (mk1 false (t.take i)) = u * 256 + (b).toNat := by
        rw [show i = (i - 1) + 1 by omega, List.take_succ_eq_append_getElem hil, mk1_snoc, beV_snoc, hu, hb]; rfl
      have HT := Lib.hid hT; have HU := Lib.hid hu
      obtain ⟨bI, hbI⟩ : ∃ bI : Int, (b.toNat : Int) = bI := ⟨_, rfl⟩
      rw [hbI] at hxb
      have bb : 0 ≤ bI ∧ bI < 256 := by omega
      have HBI := Lib.hid hbI
      clear hT hu hv hv7 hb hb256 hbI
      go_wp2
      go_roundw
      case rel => exact ⟨i + 1, by omega, by omega, by rw [Nat.add_sub_cancel, HT.out]; exact congrArg (Value.int IntKind.u64) (by have := b.toNat_lt; rw [← HBI.out]; omega), rfl, trivial⟩
      case measure => simp [intOf]; omega
    · obtain rfl : i = kk + 1 := by omega
      have HU := Lib.hid hu
      have HL0 : Hid (Lg w0 wr wr g s bad) := Lib.hid ⟨HIs.out, HB.out, KeepBut.refl wr g none⟩
      by_cases hbig : u < 9223372036854775808
      · have hV : bourneref02_Int.f 20 (u : Int) = some (mkB (intB (u : Int))) := ref_Int_eq _ ⟨by omega, by omega⟩ 0
        obtain ⟨V, hVe⟩ : ∃ V : Int, (u : Int) = V := ⟨_, rfl⟩
        rw [hVe] at hV
        have hw8 : wrap64 (u : Int) = V := by rw [w64 (x := (u : Int)) (by omega) (by omega)]; omega
        obtain ⟨I, hI⟩ : ∃ I, mkB (intB V) = I := ⟨_, rfl⟩
        obtain ⟨E, hE⟩ : ∃ E, s.extract 0 (kk + 1) = E := ⟨_, rfl⟩
        have hiff : I = E ↔ mlen u = kk := by
          rw [← hI, ← hE, extract_take, HL.out, List.take_succ_cons]
          refine Iff.trans ⟨fun h => congrArg (fun b => b.data.toList) h, fun h => congrArg mkB h⟩ ?_
          show intB V = _ ↔ _
          rw [← hVe]
          exact same_pos c t kk u (by omega) (by omega) hu hbig
        rw [hI] at hV
        have HE := Lib.hid hE; have HIFF := Lib.hid hiff
        clear hI hE hiff
        have HV := Lib.hid hV; have HVE := Lib.hid hVe
        clear hV hu hVe
        go_wp2
        refine start_ (n := 14) (S := fun w' => Lg w0 wr w' g s bad) (ds := []) #[false, false, false, false, false, false, false, false, false, false, false, false, false, false] (by kernel_rfl) rfl rfl (HL0.out.more _ (Or.inl (Nat.le_refl _)) (below_drew (Below.refl _ _))) (fun hHeld => ?_)
        refine pure_ (i := 0) (N := some 70) (v := ?_) (a' := ?_) #[true, false, false, false, false, false, false, false, false, false, false, false, false, false] rfl rfl (by kernel_rfl) (fun _ _ _ h => h) (Or.inl ⟨by rfl, ?_⟩) ?_ ?_
        rotate_left
        · intro w'
          go_simp
          with_reducible rfl
        rotate_left
        · simp only [Act.put, List.setIfInBounds_toArray, List.set_cons_zero, List.set_cons_succ, i64_w, i32_w]
          rfl
        refine pure_ (i := 1) (N := some 71) (v := ?_) (a' := ?_) #[true, true, false, false, false, false, false, false, false, false, false, false, false, false] rfl rfl (by kernel_rfl) (fun _ _ _ h => h) (Or.inl ⟨by rfl, ?_⟩) ?_ ?_
        rotate_left
        · intro w'
          go_simp
          rw [decide_eq_false (show ¬ ((9223372036854775808 : Int) ≤ (u : Int)) by omega)]
        rotate_left
        · simp only [Act.put, List.setIfInBounds_toArray, List.set_cons_zero, List.set_cons_succ, i64_w, i32_w]
          rfl
        refine pure_ (i := 2) (N := some 72) (v := ?_) (a' := ?_) #[true, true, true, false, false, false, false, false, false, false, false, false, false, false] rfl rfl (by kernel_rfl) (fun _ _ _ h => h) (Or.inl ⟨by rfl, ?_⟩) ?_ ?_
        rotate_left
        · intro w'
          go_simp
          with_reducible rfl
        rotate_left
        · simp only [Act.put, List.setIfInBounds_toArray, List.set_cons_zero, List.set_cons_succ, i64_w, i32_w]
          rfl
        refine pure_ (i := 3) (N := some 73) (v := ?_) (a' := ?_) #[true, true, true, true, false, false, false, false, false, false, false, false, false, false] rfl rfl (by kernel_rfl) (fun _ _ _ h => h) (Or.inl ⟨by rfl, ?_⟩) ?_ ?_
        rotate_left
        · intro w'
          go_simp
          first | rw [hw8] | rw [HVE.out] | rw [show -(u : Int) - 1 = V by have := HVE.out; omega]
        rotate_left
        · simp only [Act.put, List.setIfInBounds_toArray, List.set_cons_zero, List.set_cons_succ, i64_w, i32_w]
          rfl
        refine pure_ (i := 5) (N := some 75) (v := ?_) (a' := ?_) #[true, true, true, true, false, true, false, false, false, false, false, false, false, false] rfl rfl (by kernel_rfl) (fun _ _ _ h => h) (Or.inl ⟨by rfl, ?_⟩) ?_ ?_
        rotate_left
        · intro w'
          go_simp
          with_reducible rfl
        rotate_left
        · simp only [Act.put, List.setIfInBounds_toArray, List.set_cons_zero, List.set_cons_succ, i64_w, i32_w]
          rfl
        refine pure_ (i := 6) (N := some 76) (v := ?_) (a' := ?_) #[true, true, true, true, false, true, true, false, false, false, false, false, false, false] rfl rfl (by kernel_rfl) (fun _ _ _ h => h) (Or.inl ⟨by rfl, ?_⟩) ?_ ?_
        rotate_left
        · intro w'
          go_simp
          with_reducible rfl
        rotate_left
        · simp only [Act.put, List.setIfInBounds_toArray, List.set_cons_zero, List.set_cons_succ, i64_w, i32_w]
          rfl
        refine pure_ (i := 7) (N := some 77) (v := ?_) (a' := ?_) #[true, true, true, true, false, true, true, true, false, false, false, false, false, false] rfl rfl (by kernel_rfl) (fun _ _ _ h => h) (Or.inl ⟨by rfl, ?_⟩) ?_ ?_
        rotate_left
        · intro w'
          go_simp
          with_reducible rfl
        rotate_left
        · simp only [Act.put, List.setIfInBounds_toArray, List.set_cons_zero, List.set_cons_succ, i64_w, i32_w]
          rfl
        refine take_ (i := 8) (N := some 78) (v := ?_) (a' := ?_) #[true, true, true, true, false, true, true, true, true, false, false, false, false, false] rfl rfl (by kernel_rfl) (fun _ _ _ h => h) (Or.inl ⟨by rfl, ?_⟩) hHeld ?_ ?_
        rotate_left
        · intro w' hL'
          have hc' := cellS119_0 hL'.is.1
          go_simp
          with_reducible rfl
        rotate_left
        · simp only [Act.put, List.setIfInBounds_toArray, List.set_cons_zero, List.set_cons_succ, i64_w, i32_w]
          rfl
        refine pure_ (i := 9) (N := some 79) (v := ?_) (a' := ?_) #[true, true, true, true, false, true, true, true, true, true, false, false, false, false] rfl rfl (by kernel_rfl) (fun _ _ _ h => h) (Or.inl ⟨by rfl, ?_⟩) ?_ ?_
        rotate_left
        · intro w'
          go_simp
          with_reducible rfl
        rotate_left
        · simp only [Act.put, List.setIfInBounds_toArray, List.set_cons_zero, List.set_cons_succ, i64_w, i32_w]
          rfl
        refine pure_ (i := 10) (N := some 80) (v := ?_) (a' := ?_) #[true, true, true, true, false, true, true, true, true, true, true, false, false, false] rfl rfl (by kernel_rfl) (fun _ _ _ h => h) (Or.inl ⟨by rfl, ?_⟩) ?_ ?_
        rotate_left
        · intro w'
          go_simp
          rw [i64_w, w64 (x := 1 + (kk : Int)) (by omega) (by omega)]
        rotate_left
        · simp only [Act.put, List.setIfInBounds_toArray, List.set_cons_zero, List.set_cons_succ, i64_w, i32_w]
          rfl
        refine pure_ (i := 11) (N := some 81) (v := ?_) (a' := ?_) #[true, true, true, true, false, true, true, true, true, true, true, true, false, false] rfl rfl (by kernel_rfl) (fun _ _ _ h => h) (Or.inl ⟨by rfl, ?_⟩) ?_ ?_
        rotate_left
        · intro w'
          go_simp
          rw [if_pos (show (0 : Int) ≤ 1 + (kk : Int) by omega), show (1 + (kk : Int)).toNat = kk + 1 by omega, HE.out]
        rotate_left
        · simp only [Act.put, List.setIfInBounds_toArray, List.set_cons_zero, List.set_cons_succ, i64_w, i32_w]
          rfl
        refine one_ (i := 4) (N := some 74) #[true, true, true, true, true, true, true, true, true, true, true, true, false, false] rfl rfl (by kernel_rfl) (by decide) (fun K hK => ?_)
        refine goes_ Tryd.func49 (by kernel_rfl) rfl #[.int .i64 V] (by rfl) rfl rfl (by simp only [List.map_toArray, List.map_cons, List.map_nil]; rfl) ?_
        refine (bourneref02_Int.calls 20 V _ _ HV.out).mono ?_
        rintro e w' ⟨rfl, hb'⟩
        refine ⟨_, rfl, ?_⟩
        refine hK.out _ _ (hHeld.more _ (Or.inl (Nat.le_refl _)) hb') (fun hHeld => ?_)
        clear hK K
        refine norm_ (a' := ?_) ?_ ?_
        rotate_left
        · show Act.put _ (some 74) _ = _
          simp only [Act.put, List.setIfInBounds_toArray, List.set_cons_zero, List.set_cons_succ, i64_w, i32_w]
          rfl
        refine pure_ (i := 12) (N := some 82) (v := ?_) (a' := ?_) #[true, true, true, true, true, true, true, true, true, true, true, true, true, false] rfl rfl (by kernel_rfl) (fun _ _ _ h => h) (Or.inl ⟨by rfl, ?_⟩) ?_ ?_
        rotate_left
        · intro w'
          go_simp
          with_reducible rfl
        rotate_left
        · simp only [Act.put, List.setIfInBounds_toArray, List.set_cons_zero, List.set_cons_succ, i64_w, i32_w]
          rfl
        refine pure_ (i := 13) (N := some 83) (v := ?_) (a' := ?_) #[true, true, true, true, true, true, true, true, true, true, true, true, true, true] rfl rfl (by kernel_rfl) (fun _ _ _ h => h) (Or.inl ⟨by rfl, ?_⟩) ?_ ?_
        rotate_left
        · intro w'
          go_simp
          with_reducible rfl
        rotate_left
        · simp only [Act.put, List.setIfInBounds_toArray, List.set_cons_zero, List.set_cons_succ, i64_w, i32_w]
          rfl
        refine done_ (by kernel_rfl) ?_
        clear hw8
        have hcz0 := cellS119_0 hHeld.is.1
        have hcz1 := cellS119_1 hHeld.is.1
        have hfz0 := blk_frozen hHeld.is.1 0
        have hfz1 := blk_frozen hHeld.is.1 1
        have HH := Lib.hid hHeld
        clear hHeld hb'
        by_cases hIE : I = E
        · have hm : mlen u = kk := HIFF.out.1 hIE
          have hr := fin_ok false kk u t bad (by rw [← HU.out]; rfl) hm hbig
          have i1 : (I.toList == E.toList) = true := by rw [hIE]; exact beq_self_eq_true _
          have i2 : (I.toList != E.toList) = false := by rw [hIE]; exact bne_self_eq_false _
          have HR := Lib.hid hr; clear hr hIE i2
          rw [i1]
          go_wp2
          go_ret
          rw [HR.out]
          have hd : s.extract (1 + kk) (t.length + 1) = mkB (t.drop kk) := by rw [Nat.add_comm 1 kk, show t.length + 1 = s.size by omega, extract_drop, HL.out, List.drop_succ_cons]
          show _ ∧ Lg w0 wr _ g (mkB (t.drop kk)) bad
          rw [← hd]
          refine ⟨rfl, ⟨?_, ?_, ?_⟩⟩
          · exact IsS119.set_0 HH.out.is _
          · exact below_set HH.out.below HH.out.is.ge
          · exact HH.out.keep.set_ _ _
        · have hm : mlen u ≠ kk := fun h => hIE (HIFF.out.2 h)
          have hr := fin_no false kk u t bad (by rw [← HU.out]; rfl) (Or.inl hm)
          have i1 : (I.toList == E.toList) = false := beq_eq_false_iff_ne.2 (fun h => hIE (ext_l h))
          have i2 : (I.toList != E.toList) = true := bne_iff_ne.2 (fun h => hIE (ext_l h))
          have HR := Lib.hid hr; clear hr hIE i2
          rw [i1]
          go_wp2_with (go_at_call 116; refine (fail_r w0 _ g s bad HH.out.is HH.out.below).mono ?_; rintro e w1 ⟨rfl, h1⟩)
          go_ret
          rw [HR.out]
          exact ⟨rfl, HH.out.trans h1⟩
      · have hbig' : (9223372036854775808 : Int) ≤ (u : Int) := by omega
        have hr := fin_no false kk u t bad (by rw [← HU.out]; rfl) (Or.inr (by omega))
        have HR := Lib.hid hr
        clear hu hr
        go_wp2
        go_region
        have HLd : Hid (Lg w0 wr wr.drew g s bad) := Lib.hid (HL0.out.more _ (Or.inl (Nat.le_refl _)) (below_drew (Below.refl _ _)))
        go_wp2_with (go_at_call 116; refine (fail_r w0 _ g s bad HLd.out.is HLd.out.below).mono ?_; rintro e w1 ⟨rfl, h1⟩)
        go_ret
        rw [HR.out]
        exact ⟨rfl, HLd.out.trans h1⟩
set_option maxHeartbeats 8000000 in
set_option maxRecDepth 100000 in
theorem RInt73_neg (g : Nat) (s : ByteArray) (bad : Bool) (w0 w : World) (hI : IsS119 w0 w g s bad) (hB : Below w0.heap.size w0 w) (hs : s.size ≤ 1000000) (c : UInt8) (t : List UInt8) (hl : s.data.toList = c :: t) (xI : Int) (hxI : (c.toNat : Int) = xI) (kk : Nat) (hkk : 127 - xI = (kk : Int)) (hsg : xI < 128) :
    Calls Tryd.prog 73 #[.pointer (some ⟨g, 0, none⟩)] w fun e w' => e = .returned (.int .i64 (if kk > 8 ∨ kk > t.length then ((0 : Int), mkB [], true) else fin true kk t bad).1) ∧ Lg w0 w w' g (if kk > 8 ∨ kk > t.length then ((0 : Int), mkB [], true) else fin true kk t bad).2.1 (if kk > 8 ∨ kk > t.length then ((0 : Int), mkB [], true) else fin true kk t bad).2.2 := by
  have hz : s.size = t.length + 1 := by rw [← len_size, hl]; rfl
  have hc := c.toNat_lt; have hcx := hxI
  have hx := first_byte s c t hl
  rw [hxI] at hx
  have hne := toList_cons s c t hl
  have c2b0 : (s.toList == ([] : List UInt8)) = false := beq_eq_false_iff_ne.mpr hne
  have q7 : 0 < s.size := by omega
  have qi7 : (0 < (s.size : Int)) = True := eq_true (by omega)
  have q8 : (0 < s.size) = True := eq_true q7
  have x0 : 0 ≤ xI := by omega
  have x1 : xI < 256 := by omega
  have w1 : wrap64 xI = xI := w64 (by omega) (by omega)
  obtain ⟨HG, hg0⟩ := hI
  have hcz0 := cellS119_0 HG
  have hcz1 := cellS119_1 HG
  have hfz0 := blk_frozen HG 0
  have hfz1 := blk_frozen HG 1
  have HIs := Lib.hid (⟨HG, hg0⟩ : IsS119 w0 w g s bad); have HB := Lib.hid hB; have HL := Lib.hid hl
  clear HG hg0 hB hl hne hxI hc
  by_cases h8 : kk > 8
  · rw [if_pos (Or.inl h8)]
    have b8 : (8 : Int) < (kk : Int) := by omega
    go_enter Tryd.func73, Tryd.ntmps73
    go_wp2_with (go_at_call 116; refine (fail_r w0 _ g s bad HIs.out HB.out).mono ?_; rintro e w1 ⟨rfl, h1⟩)
    go_ret
    exact ⟨rfl, h1⟩
  by_cases hlen : kk > t.length
  · rw [if_pos (Or.inr hlen)]
    have b8 : ¬ (8 : Int) < (kk : Int) := by omega
    have b9 : (s.size : Int) < 1 + (kk : Int) := by omega
    go_enter Tryd.func73, Tryd.ntmps73
    go_wp2_with (go_at_call 116; refine (fail_r w0 _ g s bad HIs.out HB.out).mono ?_; rintro e w1 ⟨rfl, h1⟩)
    go_ret
    exact ⟨rfl, h1⟩
  rw [if_neg (show ¬ (kk > 8 ∨ kk > t.length) by omega)]
  have b8 : ¬ (8 : Int) < (kk : Int) := by omega
  have b9 : ¬ (s.size : Int) < 1 + (kk : Int) := by omega
  go_enter Tryd.func73, Tryd.ntmps73
  go_wp2
  go_loopw [5, 6, 7] (fun v5 v6 v7 wr => ∃ i : Nat, 1 ≤ i ∧ i ≤ kk + 1 ∧ v5 = .int .u64 (beV (mk1 true (t.take (i - 1))) : Int) ∧ v6 = .int .i64 (i : Int) ∧ wr = w) (fun _ v6 _ _ => kk + 1 - (intOf v6).toNat)
  case atStart => exact ⟨1, by omega, by omega, rfl, rfl, rfl⟩
  case round =>
    obtain ⟨i, i1, i2, rfl, rfl, rfl⟩ := hrel
    obtain ⟨u, hu⟩ : ∃ u : Nat, beV (mk1 true (t.take (i - 1))) = u := ⟨_, rfl⟩
    rw [hu]
    by_cases hik : i ≤ kk
    · have hil : i - 1 < t.length := by omega
      obtain ⟨b, hb⟩ : ∃ b : UInt8, t[i - 1] = b := ⟨_, rfl⟩
      have hb256 := b.toNat_lt
      have hxb : ∀ h : i < s.size, ((s[i]'h).toNat : Int) = (b.toNat : Int) := by
        intro hh
        have h1 := bt_get s i (by rw [HL.out]; simp only [List.length_cons]; omega)
        have h2 : s.data.toList[i]'(by rw [HL.out]; simp only [List.length_cons]; omega) = b := by
          simp only [HL.out]; rw [List.getElem_cons, dif_neg (by omega)]; exact hb
        rw [h2] at h1
        exact (bt_at s (i : Int) hh).trans h1
      have hv := beV_lt (mk1 true (t.take (i - 1)))
      rw [hu, mk1_length, List.length_take, Nat.min_eq_left (by omega)] at hv
      have hv7 : 256 ^ (i - 1) ≤ 2 ^ 56 := Nat.le_trans (Nat.pow_le_pow_right (by decide) (show i - 1 ≤ 7 by omega)) (by decide)
      have hu2 : u < 72057594037927936 := Nat.lt_of_lt_of_le hv hv7
      have hT : beV (mk1 true (t.take i)) = u * 256 + (inv b).toNat := by
        rw [show i = (i - 1) + 1 by omega, List.take_succ_eq_append_getElem hil, mk1_snoc, beV_snoc, hu, hb]; rfl
      have HT := Lib.hid hT; have HU := Lib.hid hu
      obtain ⟨bI, hbI⟩ : ∃ bI : Int, (b.toNat : Int) = bI := ⟨_, rfl⟩
      rw [hbI] at hxb
      have bb : 0 ≤ bI ∧ bI < 256 := by omega
      have HBI := Lib.hid hbI
      clear hT hu hv hv7 hb hb256 hbI
      go_wp2
      go_roundw
      case rel => exact ⟨i + 1, by omega, by omega, by rw [Nat.add_sub_cancel, HT.out]; exact congrArg (Value.int IntKind.u64) (by have := b.toNat_lt; rw [← HBI.out, inv_toNat]; omega), rfl, trivial⟩
      case measure => simp [intOf]; omega
    · obtain rfl : i = kk + 1 := by omega
      have HU := Lib.hid hu
      have HL0 : Hid (Lg w0 wr wr g s bad) := Lib.hid ⟨HIs.out, HB.out, KeepBut.refl wr g none⟩
      by_cases hbig : u < 9223372036854775808
      · have hV : bourneref02_Int.f 20 (-1 - (u : Int)) = some (mkB (intB (-1 - (u : Int)))) := ref_Int_eq _ ⟨by omega, by omega⟩ 0
        obtain ⟨V, hVe⟩ : ∃ V : Int, (-1 - (u : Int)) = V := ⟨_, rfl⟩
        rw [hVe] at hV
        have hw8 : wrap64 (wrap64 (-wrap64 (u : Int)) - 1) = V := by rw [w64 (x := (u : Int)) (by omega) (by omega), w64 (x := -(u : Int)) (by omega) (by omega), w64 (x := -(u : Int) - 1) (by omega) (by omega)]; omega
        obtain ⟨I, hI⟩ : ∃ I, mkB (intB V) = I := ⟨_, rfl⟩
        obtain ⟨E, hE⟩ : ∃ E, s.extract 0 (kk + 1) = E := ⟨_, rfl⟩
        have hiff : I = E ↔ mlen u = kk := by
          rw [← hI, ← hE, extract_take, HL.out, List.take_succ_cons]
          refine Iff.trans ⟨fun h => congrArg (fun b => b.data.toList) h, fun h => congrArg mkB h⟩ ?_
          show intB V = _ ↔ _
          rw [← hVe]
          exact same_neg c t kk u (by omega) (by omega) hu hbig
        rw [hI] at hV
        have HE := Lib.hid hE; have HIFF := Lib.hid hiff
        clear hI hE hiff
        have HV := Lib.hid hV; have HVE := Lib.hid hVe
        clear hV hu hVe
        go_wp2
        refine start_ (n := 14) (S := fun w' => Lg w0 wr w' g s bad) (ds := []) #[false, false, false, false, false, false, false, false, false, false, false, false, false, false] (by kernel_rfl) rfl rfl (HL0.out.more _ (Or.inl (Nat.le_refl _)) (below_drew (Below.refl _ _))) (fun hHeld => ?_)
        refine pure_ (i := 0) (N := some 70) (v := ?_) (a' := ?_) #[true, false, false, false, false, false, false, false, false, false, false, false, false, false] rfl rfl (by kernel_rfl) (fun _ _ _ h => h) (Or.inl ⟨by rfl, ?_⟩) ?_ ?_
        rotate_left
        · intro w'
          go_simp
          with_reducible rfl
        rotate_left
        · simp only [Act.put, List.setIfInBounds_toArray, List.set_cons_zero, List.set_cons_succ, i64_w, i32_w]
          rfl
        refine pure_ (i := 1) (N := some 71) (v := ?_) (a' := ?_) #[true, true, false, false, false, false, false, false, false, false, false, false, false, false] rfl rfl (by kernel_rfl) (fun _ _ _ h => h) (Or.inl ⟨by rfl, ?_⟩) ?_ ?_
        rotate_left
        · intro w'
          go_simp
          rw [decide_eq_false (show ¬ ((9223372036854775808 : Int) ≤ (u : Int)) by omega)]
        rotate_left
        · simp only [Act.put, List.setIfInBounds_toArray, List.set_cons_zero, List.set_cons_succ, i64_w, i32_w]
          rfl
        refine pure_ (i := 2) (N := some 72) (v := ?_) (a' := ?_) #[true, true, true, false, false, false, false, false, false, false, false, false, false, false] rfl rfl (by kernel_rfl) (fun _ _ _ h => h) (Or.inl ⟨by rfl, ?_⟩) ?_ ?_
        rotate_left
        · intro w'
          go_simp
          with_reducible rfl
        rotate_left
        · simp only [Act.put, List.setIfInBounds_toArray, List.set_cons_zero, List.set_cons_succ, i64_w, i32_w]
          rfl
        refine pure_ (i := 3) (N := some 73) (v := ?_) (a' := ?_) #[true, true, true, true, false, false, false, false, false, false, false, false, false, false] rfl rfl (by kernel_rfl) (fun _ _ _ h => h) (Or.inl ⟨by rfl, ?_⟩) ?_ ?_
        rotate_left
        · intro w'
          go_simp
          first | rw [hw8] | rw [HVE.out] | rw [show -(u : Int) - 1 = V by have := HVE.out; omega]
        rotate_left
        · simp only [Act.put, List.setIfInBounds_toArray, List.set_cons_zero, List.set_cons_succ, i64_w, i32_w]
          rfl
        refine pure_ (i := 5) (N := some 75) (v := ?_) (a' := ?_) #[true, true, true, true, false, true, false, false, false, false, false, false, false, false] rfl rfl (by kernel_rfl) (fun _ _ _ h => h) (Or.inl ⟨by rfl, ?_⟩) ?_ ?_
        rotate_left
        · intro w'
          go_simp
          with_reducible rfl
        rotate_left
        · simp only [Act.put, List.setIfInBounds_toArray, List.set_cons_zero, List.set_cons_succ, i64_w, i32_w]
          rfl
        refine pure_ (i := 6) (N := some 76) (v := ?_) (a' := ?_) #[true, true, true, true, false, true, true, false, false, false, false, false, false, false] rfl rfl (by kernel_rfl) (fun _ _ _ h => h) (Or.inl ⟨by rfl, ?_⟩) ?_ ?_
        rotate_left
        · intro w'
          go_simp
          with_reducible rfl
        rotate_left
        · simp only [Act.put, List.setIfInBounds_toArray, List.set_cons_zero, List.set_cons_succ, i64_w, i32_w]
          rfl
        refine pure_ (i := 7) (N := some 77) (v := ?_) (a' := ?_) #[true, true, true, true, false, true, true, true, false, false, false, false, false, false] rfl rfl (by kernel_rfl) (fun _ _ _ h => h) (Or.inl ⟨by rfl, ?_⟩) ?_ ?_
        rotate_left
        · intro w'
          go_simp
          with_reducible rfl
        rotate_left
        · simp only [Act.put, List.setIfInBounds_toArray, List.set_cons_zero, List.set_cons_succ, i64_w, i32_w]
          rfl
        refine take_ (i := 8) (N := some 78) (v := ?_) (a' := ?_) #[true, true, true, true, false, true, true, true, true, false, false, false, false, false] rfl rfl (by kernel_rfl) (fun _ _ _ h => h) (Or.inl ⟨by rfl, ?_⟩) hHeld ?_ ?_
        rotate_left
        · intro w' hL'
          have hc' := cellS119_0 hL'.is.1
          go_simp
          with_reducible rfl
        rotate_left
        · simp only [Act.put, List.setIfInBounds_toArray, List.set_cons_zero, List.set_cons_succ, i64_w, i32_w]
          rfl
        refine pure_ (i := 9) (N := some 79) (v := ?_) (a' := ?_) #[true, true, true, true, false, true, true, true, true, true, false, false, false, false] rfl rfl (by kernel_rfl) (fun _ _ _ h => h) (Or.inl ⟨by rfl, ?_⟩) ?_ ?_
        rotate_left
        · intro w'
          go_simp
          with_reducible rfl
        rotate_left
        · simp only [Act.put, List.setIfInBounds_toArray, List.set_cons_zero, List.set_cons_succ, i64_w, i32_w]
          rfl
        refine pure_ (i := 10) (N := some 80) (v := ?_) (a' := ?_) #[true, true, true, true, false, true, true, true, true, true, true, false, false, false] rfl rfl (by kernel_rfl) (fun _ _ _ h => h) (Or.inl ⟨by rfl, ?_⟩) ?_ ?_
        rotate_left
        · intro w'
          go_simp
          rw [i64_w, w64 (x := 1 + (kk : Int)) (by omega) (by omega)]
        rotate_left
        · simp only [Act.put, List.setIfInBounds_toArray, List.set_cons_zero, List.set_cons_succ, i64_w, i32_w]
          rfl
        refine pure_ (i := 11) (N := some 81) (v := ?_) (a' := ?_) #[true, true, true, true, false, true, true, true, true, true, true, true, false, false] rfl rfl (by kernel_rfl) (fun _ _ _ h => h) (Or.inl ⟨by rfl, ?_⟩) ?_ ?_
        rotate_left
        · intro w'
          go_simp
          rw [if_pos (show (0 : Int) ≤ 1 + (kk : Int) by omega), show (1 + (kk : Int)).toNat = kk + 1 by omega, HE.out]
        rotate_left
        · simp only [Act.put, List.setIfInBounds_toArray, List.set_cons_zero, List.set_cons_succ, i64_w, i32_w]
          rfl
        refine one_ (i := 4) (N := some 74) #[true, true, true, true, true, true, true, true, true, true, true, true, false, false] rfl rfl (by kernel_rfl) (by decide) (fun K hK => ?_)
        refine goes_ Tryd.func49 (by kernel_rfl) rfl #[.int .i64 V] (by rfl) rfl rfl (by simp only [List.map_toArray, List.map_cons, List.map_nil]; rfl) ?_
        refine (bourneref02_Int.calls 20 V _ _ HV.out).mono ?_
        rintro e w' ⟨rfl, hb'⟩
        refine ⟨_, rfl, ?_⟩
        refine hK.out _ _ (hHeld.more _ (Or.inl (Nat.le_refl _)) hb') (fun hHeld => ?_)
        clear hK K
        refine norm_ (a' := ?_) ?_ ?_
        rotate_left
        · show Act.put _ (some 74) _ = _
          simp only [Act.put, List.setIfInBounds_toArray, List.set_cons_zero, List.set_cons_succ, i64_w, i32_w]
          rfl
        refine pure_ (i := 12) (N := some 82) (v := ?_) (a' := ?_) #[true, true, true, true, true, true, true, true, true, true, true, true, true, false] rfl rfl (by kernel_rfl) (fun _ _ _ h => h) (Or.inl ⟨by rfl, ?_⟩) ?_ ?_
        rotate_left
        · intro w'
          go_simp
          with_reducible rfl
        rotate_left
        · simp only [Act.put, List.setIfInBounds_toArray, List.set_cons_zero, List.set_cons_succ, i64_w, i32_w]
          rfl
        refine pure_ (i := 13) (N := some 83) (v := ?_) (a' := ?_) #[true, true, true, true, true, true, true, true, true, true, true, true, true, true] rfl rfl (by kernel_rfl) (fun _ _ _ h => h) (Or.inl ⟨by rfl, ?_⟩) ?_ ?_
        rotate_left
        · intro w'
          go_simp
          with_reducible rfl
        rotate_left
        · simp only [Act.put, List.setIfInBounds_toArray, List.set_cons_zero, List.set_cons_succ, i64_w, i32_w]
          rfl
        refine done_ (by kernel_rfl) ?_
        clear hw8
        have hcz0 := cellS119_0 hHeld.is.1
        have hcz1 := cellS119_1 hHeld.is.1
        have hfz0 := blk_frozen hHeld.is.1 0
        have hfz1 := blk_frozen hHeld.is.1 1
        have HH := Lib.hid hHeld
        clear hHeld hb'
        by_cases hIE : I = E
        · have hm : mlen u = kk := HIFF.out.1 hIE
          have hr := fin_ok true kk u t bad (by rw [← HU.out]; rfl) hm hbig
          have i1 : (I.toList == E.toList) = true := by rw [hIE]; exact beq_self_eq_true _
          have i2 : (I.toList != E.toList) = false := by rw [hIE]; exact bne_self_eq_false _
          have HR := Lib.hid hr; clear hr hIE i2
          rw [i1]
          go_wp2
          go_ret
          rw [HR.out]
          have hd : s.extract (1 + kk) (t.length + 1) = mkB (t.drop kk) := by rw [Nat.add_comm 1 kk, show t.length + 1 = s.size by omega, extract_drop, HL.out, List.drop_succ_cons]
          show _ ∧ Lg w0 wr _ g (mkB (t.drop kk)) bad
          rw [← hd]
          refine ⟨by show Ending.returned (Value.int IntKind.i64 _) = Ending.returned (Value.int IntKind.i64 (-1 - (u : Int))); congr 2; omega, ⟨?_, ?_, ?_⟩⟩
          · exact IsS119.set_0 HH.out.is _
          · exact below_set HH.out.below HH.out.is.ge
          · exact HH.out.keep.set_ _ _
        · have hm : mlen u ≠ kk := fun h => hIE (HIFF.out.2 h)
          have hr := fin_no true kk u t bad (by rw [← HU.out]; rfl) (Or.inl hm)
          have i1 : (I.toList == E.toList) = false := beq_eq_false_iff_ne.2 (fun h => hIE (ext_l h))
          have i2 : (I.toList != E.toList) = true := bne_iff_ne.2 (fun h => hIE (ext_l h))
          have HR := Lib.hid hr; clear hr hIE i2
          rw [i1]
          go_wp2_with (go_at_call 116; refine (fail_r w0 _ g s bad HH.out.is HH.out.below).mono ?_; rintro e w1 ⟨rfl, h1⟩)
          go_ret
          rw [HR.out]
          exact ⟨rfl, HH.out.trans h1⟩
      · have hbig' : (9223372036854775808 : Int) ≤ (u : Int) := by omega
        have hr := fin_no true kk u t bad (by rw [← HU.out]; rfl) (Or.inr (by omega))
        have HR := Lib.hid hr
        clear hu hr
        go_wp2
        go_region
        have HLd : Hid (Lg w0 wr wr.drew g s bad) := Lib.hid (HL0.out.more _ (Or.inl (Nat.le_refl _)) (below_drew (Below.refl _ _)))
        go_wp2_with (go_at_call 116; refine (fail_r w0 _ g s bad HLd.out.is HLd.out.below).mono ?_; rintro e w1 ⟨rfl, h1⟩)
        go_ret
        rw [HR.out]
        exact ⟨rfl, HLd.out.trans h1⟩
end Go.Proofs.YtdgejkiackeieaaDoor.Wr
end
section
/- The rest of the contracts of both readers (layer 2): Int, Num, Nums, Left, Done, Open. -/
set_option linter.unusedVariables false
set_option linter.unusedSimpArgs false
namespace Go.Proofs.YtdgejkiackeieaaDoor.Wr
open Go.RowKit Go.Proofs.YtdgejkiackeieaaDoor Go.Proofs.YtdgejkiackeieaaDoor.PWr Go.Proofs.YtdgejkiackeieaaDoorW.PrintWords Go.Proofs.YtdgejkiackeieaaDoorW.PrintMore Go.Proofs.YtdgejkiackeieaaDoorW.PrintLast
set_option maxRecDepth 100000 in
theorem refInt_any (g : Nat) (s : ByteArray) (bad : Bool) (w0 w : World) (hI : IsS119 w0 w g s bad) (hB : Below w0.heap.size w0 w) (hs : s.size ≤ 1000000) :
    Calls Tryd.prog 73 #[.pointer (some ⟨g, 0, none⟩)] w fun e w' => e = .returned (.int .i64 (rdr (intR s.data.toList) 0 bad).1) ∧ Lg w0 w w' g (rdr (intR s.data.toList) 0 bad).2.1 (rdr (intR s.data.toList) 0 bad).2.2 := by
  cases hl : s.data.toList with
  | nil =>
    have c2b0 : (s.toList == ([] : List UInt8)) = true := beq_iff_eq.mpr (toList_nil s hl)
    obtain ⟨HG, hg0⟩ := hI
    have hcz0 := cellS119_0 HG
    have HIs := Lib.hid (⟨HG, hg0⟩ : IsS119 w0 w g s bad); have HB := Lib.hid hB
    clear HG hg0 hB hl
    go_enter Tryd.func73, Tryd.ntmps73
    go_wp2_with (go_at_call 116; refine (fail_r w0 _ g s bad HIs.out HB.out).mono ?_; rintro e w1 ⟨rfl, h1⟩)
    go_ret
    exact ⟨rfl, h1⟩
  | cons c t =>
    have hc := c.toNat_lt
    rw [intR_cons]
    by_cases hneg : c.toNat < 128
    · rw [if_pos hneg, decide_eq_true hneg]
      exact RInt73_neg g s bad w0 w hI hB hs c t hl _ rfl (127 - c.toNat) (by omega) (by omega)
    · rw [if_neg hneg, decide_eq_false hneg]
      exact RInt73_pos g s bad w0 w hI hB hs c t hl _ rfl (c.toNat - 128) (by omega) (by omega)
/-- Reading a number that is not negative. -/
def numR (l : List UInt8) : Option (Int × List UInt8) := match intR l with | some (n, r) => if n < 0 then none else some (n, r) | none => none
theorem numR_none {l : List UInt8} (h : intR l = none) : numR l = none := by unfold numR; rw [h]
theorem numR_neg {l r : List UInt8} {n : Int} (h : intR l = some (n, r)) (hn : n < 0) : numR l = none := by unfold numR; rw [h]; exact if_pos hn
theorem numR_some {l r : List UInt8} {n : Int} (h : intR l = some (n, r)) (hn : ¬ n < 0) : numR l = some (n, r) := by unfold numR; rw [h]; exact if_neg hn
set_option maxRecDepth 100000 in
theorem RNum_any (g : Nat) (s : ByteArray) (bad : Bool) (w0 w : World) (hI : IsS117 w0 w g s bad) (hB : Below w0.heap.size w0 w) (hs : s.size ≤ 1000000) :
    Calls Tryd.prog 70 #[.pointer (some ⟨g, 0, none⟩)] w fun e w' => e = .returned (.int .i64 (rdr (numR s.data.toList) 0 bad).1) ∧ Lf w0 w w' g (rdr (numR s.data.toList) 0 bad).2.1 (rdr (numR s.data.toList) 0 bad).2.2 := by
  have HI := Lib.hid hI; have HB := Lib.hid hB
  clear hI hB
  cases ho : intR s.data.toList with
  | none =>
    rw [numR_none ho]
    have HO := Lib.hid ho
    clear ho
    go_enter Tryd.func70, Tryd.ntmps70
    go_wp2_with fail
    refine (RInt_any g s bad w0 w HI.out HB.out hs).mono ?_
    rw [HO.out]
    rintro e w1 ⟨rfl, h1⟩
    go_wp2
    go_ret
    exact ⟨rfl, h1⟩
  | some p =>
    obtain ⟨n, r⟩ := p
    by_cases hn : n < 0
    · rw [numR_neg ho hn]
      have HO := Lib.hid ho
      clear ho
      go_enter Tryd.func70, Tryd.ntmps70
      go_wp2_with fail
      refine (RInt_any g s bad w0 w HI.out HB.out hs).mono ?_
      rw [HO.out]
      rintro e w1 ⟨rfl, h1⟩
      have H1 := Lib.hid h1
      clear h1
      have hn' : (rdr (some (n, r)) 0 bad).1 < 0 := hn
      go_wp2_with (go_at_call 115; refine (fail_c w0 _ g _ _ H1.out.is H1.out.below).mono ?_; rintro e w1 ⟨rfl, h1⟩)
      go_ret
      exact ⟨rfl, H1.out.trans h1⟩
    · rw [numR_some ho hn]
      have HO := Lib.hid ho
      clear ho
      go_enter Tryd.func70, Tryd.ntmps70
      go_wp2_with fail
      refine (RInt_any g s bad w0 w HI.out HB.out hs).mono ?_
      rw [HO.out]
      rintro e w1 ⟨rfl, h1⟩
      have H1 := Lib.hid h1
      clear h1
      have hn' : ¬ (rdr (some (n, r)) 0 bad).1 < 0 := Int.not_lt.2 hn
      go_wp2
      go_ret
      exact ⟨rfl, H1.out⟩
theorem RLeft_any (g : Nat) (s : ByteArray) (bad : Bool) (w0 w : World) (hI : IsS117 w0 w g s bad) (hB : Below w0.heap.size w0 w) :
    Calls Tryd.prog 82 #[.pointer (some ⟨g, 0, none⟩)] w fun e w' => e = .returned (.int .i64 s.size) ∧ w' = w := by
  have hcz0 := cellS117_0 hI.1
  have HI := Lib.hid hI
  clear hI hB
  go_enter Tryd.func82, Tryd.ntmps82
  go_wp2
  go_ret
  exact ⟨rfl, rfl⟩
theorem RDone_any (g : Nat) (s : ByteArray) (bad : Bool) (w0 w : World) (hI : IsS117 w0 w g s bad) (hB : Below w0.heap.size w0 w) :
    Calls Tryd.prog 84 #[.pointer (some ⟨g, 0, none⟩)] w fun e w' => e = .returned (.bool (!bad && (s.toList == ([] : List UInt8)))) ∧ w' = w := by
  have hcz0 := cellS117_0 hI.1
  have hcz1 := cellS117_1 hI.1
  have HI := Lib.hid hI
  clear hI hB
  cases bad with
  | true =>
    go_enter Tryd.func84, Tryd.ntmps84
    go_wp2
    go_ret
    exact ⟨rfl, rfl⟩
  | false =>
    go_enter Tryd.func84, Tryd.ntmps84
    go_wp2
    go_ret
    exact ⟨by simp, rfl⟩
theorem ROpen_any (s : ByteArray) (w0 w : World) (hB : Below w0.heap.size w0 w) :
    Calls Tryd.prog 68 #[.string s] w fun e w' => e = .returned (.pointer (some ⟨w.heap.size, 0, none⟩)) ∧ IsS117 w0 w' w.heap.size s false ∧ Below w0.heap.size w0 w' ∧ Below w.heap.size w w' := by
  go_enter Tryd.func68, Tryd.ntmps68
  go_wp2
  go_ret
  exact ⟨rfl, IsS117.new w0 w s false hB, hB.alloc hB.size _, (Below.refl _ w).alloc (Nat.le_refl _) _⟩
set_option maxRecDepth 100000 in
theorem refNum_any (g : Nat) (s : ByteArray) (bad : Bool) (w0 w : World) (hI : IsS119 w0 w g s bad) (hB : Below w0.heap.size w0 w) (hs : s.size ≤ 1000000) :
    Calls Tryd.prog 71 #[.pointer (some ⟨g, 0, none⟩)] w fun e w' => e = .returned (.int .i64 (rdr (numR s.data.toList) 0 bad).1) ∧ Lg w0 w w' g (rdr (numR s.data.toList) 0 bad).2.1 (rdr (numR s.data.toList) 0 bad).2.2 := by
  have HI := Lib.hid hI; have HB := Lib.hid hB
  clear hI hB
  cases ho : intR s.data.toList with
  | none =>
    rw [numR_none ho]
    have HO := Lib.hid ho
    clear ho
    go_enter Tryd.func71, Tryd.ntmps71
    go_wp2_with fail
    refine (refInt_any g s bad w0 w HI.out HB.out hs).mono ?_
    rw [HO.out]
    rintro e w1 ⟨rfl, h1⟩
    go_wp2
    go_ret
    exact ⟨rfl, h1⟩
  | some p =>
    obtain ⟨n, r⟩ := p
    by_cases hn : n < 0
    · rw [numR_neg ho hn]
      have HO := Lib.hid ho
      clear ho
      go_enter Tryd.func71, Tryd.ntmps71
      go_wp2_with fail
      refine (refInt_any g s bad w0 w HI.out HB.out hs).mono ?_
      rw [HO.out]
      rintro e w1 ⟨rfl, h1⟩
      have H1 := Lib.hid h1
      clear h1
      have hn' : (rdr (some (n, r)) 0 bad).1 < 0 := hn
      go_wp2_with (go_at_call 116; refine (fail_r w0 _ g _ _ H1.out.is H1.out.below).mono ?_; rintro e w1 ⟨rfl, h1⟩)
      go_ret
      exact ⟨rfl, H1.out.trans h1⟩
    · rw [numR_some ho hn]
      have HO := Lib.hid ho
      clear ho
      go_enter Tryd.func71, Tryd.ntmps71
      go_wp2_with fail
      refine (refInt_any g s bad w0 w HI.out HB.out hs).mono ?_
      rw [HO.out]
      rintro e w1 ⟨rfl, h1⟩
      have H1 := Lib.hid h1
      clear h1
      have hn' : ¬ (rdr (some (n, r)) 0 bad).1 < 0 := Int.not_lt.2 hn
      go_wp2
      go_ret
      exact ⟨rfl, H1.out⟩
theorem refLeft_any (g : Nat) (s : ByteArray) (bad : Bool) (w0 w : World) (hI : IsS119 w0 w g s bad) (hB : Below w0.heap.size w0 w) :
    Calls Tryd.prog 83 #[.pointer (some ⟨g, 0, none⟩)] w fun e w' => e = .returned (.int .i64 s.size) ∧ w' = w := by
  have hcz0 := cellS119_0 hI.1
  have HI := Lib.hid hI
  clear hI hB
  go_enter Tryd.func83, Tryd.ntmps83
  go_wp2
  go_ret
  exact ⟨rfl, rfl⟩
theorem refDone_any (g : Nat) (s : ByteArray) (bad : Bool) (w0 w : World) (hI : IsS119 w0 w g s bad) (hB : Below w0.heap.size w0 w) :
    Calls Tryd.prog 85 #[.pointer (some ⟨g, 0, none⟩)] w fun e w' => e = .returned (.bool (!bad && (s.toList == ([] : List UInt8)))) ∧ w' = w := by
  have hcz0 := cellS119_0 hI.1
  have hcz1 := cellS119_1 hI.1
  have HI := Lib.hid hI
  clear hI hB
  cases bad with
  | true =>
    go_enter Tryd.func85, Tryd.ntmps85
    go_wp2
    go_ret
    exact ⟨rfl, rfl⟩
  | false =>
    go_enter Tryd.func85, Tryd.ntmps85
    go_wp2
    go_ret
    exact ⟨by simp, rfl⟩
theorem refOpen_any (s : ByteArray) (w0 w : World) (hB : Below w0.heap.size w0 w) :
    Calls Tryd.prog 69 #[.string s] w fun e w' => e = .returned (.pointer (some ⟨w.heap.size, 0, none⟩)) ∧ IsS119 w0 w' w.heap.size s false ∧ Below w0.heap.size w0 w' ∧ Below w.heap.size w w' := by
  go_enter Tryd.func69, Tryd.ntmps69
  go_wp2
  go_ret
  exact ⟨rfl, IsS119.new w0 w s false hB, hB.alloc hB.size _, (Below.refl _ w).alloc (Nat.le_refl _) _⟩
theorem More_n (w0 w : World) (g : Nat) (s : ByteArray) (bad : Bool) (hI : IsS119 w0 w g s bad) (hB : Below w0.heap.size w0 w) (hl : s.data.toList = []) :
    Calls Tryd.prog 119 #[.pointer (some ⟨g, 0, none⟩)] w fun e w' => e = .returned (.bool false) ∧ Lg w0 w w' g (mkB []) true :=
  (bourneref02_Reader_More.calls g s bad _ _ _ w0 w hI hB (More_nil s bad hl)).mono fun e w' ⟨he, h1, h2, h3⟩ => ⟨he, h1, h2, h3⟩
theorem More_0 (w0 w : World) (g : Nat) (s : ByteArray) (bad : Bool) (hI : IsS119 w0 w g s bad) (hB : Below w0.heap.size w0 w) (c : UInt8) (t : List UInt8) (hl : s.data.toList = c :: t) (h0 : c = 0) :
    Calls Tryd.prog 119 #[.pointer (some ⟨g, 0, none⟩)] w fun e w' => e = .returned (.bool false) ∧ Lg w0 w w' g (mkB t) bad :=
  (bourneref02_Reader_More.calls g s bad _ _ _ w0 w hI hB ((More_cons s bad c t hl).trans (if_pos h0))).mono fun e w' ⟨he, h1, h2, h3⟩ => ⟨he, h1, h2, h3⟩
theorem More_1 (w0 w : World) (g : Nat) (s : ByteArray) (bad : Bool) (hI : IsS119 w0 w g s bad) (hB : Below w0.heap.size w0 w) (c : UInt8) (t : List UInt8) (hl : s.data.toList = c :: t) (h0 : ¬ c = 0) (h1 : c = 1) :
    Calls Tryd.prog 119 #[.pointer (some ⟨g, 0, none⟩)] w fun e w' => e = .returned (.bool true) ∧ Lg w0 w w' g (mkB t) bad :=
  (bourneref02_Reader_More.calls g s bad _ _ _ w0 w hI hB ((More_cons s bad c t hl).trans ((if_neg h0).trans (if_pos h1)))).mono fun e w' ⟨he, h1, h2, h3⟩ => ⟨he, h1, h2, h3⟩
theorem More_2 (w0 w : World) (g : Nat) (s : ByteArray) (bad : Bool) (hI : IsS119 w0 w g s bad) (hB : Below w0.heap.size w0 w) (c : UInt8) (t : List UInt8) (hl : s.data.toList = c :: t) (h0 : ¬ c = 0) (h1 : ¬ c = 1) :
    Calls Tryd.prog 119 #[.pointer (some ⟨g, 0, none⟩)] w fun e w' => e = .returned (.bool false) ∧ Lg w0 w w' g (mkB []) true :=
  (bourneref02_Reader_More.calls g s bad _ _ _ w0 w hI hB ((More_cons s bad c t hl).trans ((if_neg h0).trans (if_neg h1)))).mono fun e w' ⟨he, h1, h2, h3⟩ => ⟨he, h1, h2, h3⟩
theorem rdr_le (s : List UInt8) (b : Bool) : (rdr (intR s) (0 : Int) b).2.1.data.toList.length ≤ s.length := by
  cases h : intR s with
  | none => simp [rdr, mkB_list]
  | some p => obtain ⟨x, r⟩ := p; have := intR_length s x r h; simp only [rdr, mkB_list]; omega
theorem rdr_okr (s : List UInt8) : Okr (rdr (intR s) (0 : Int) false).2.1 (rdr (intR s) (0 : Int) false).2.2 := by
  cases h : intR s with
  | none => intro _; rfl
  | some p => obtain ⟨x, r⟩ := p; intro h; cases h
theorem listR_nil {α : Type} (f : List UInt8 → Option (α × List UInt8)) (n : Nat) : listR f n [] = none := by cases n <;> rfl
theorem rdrL_step (acc : List Int) (gk : Nat) (t : List UInt8) : rdrL (fun (n : Int) => n) acc (listR intR (gk + 1) (1 :: t)) false = rdrL (fun (n : Int) => n) (acc ++ [(rdr (intR t) (0 : Int) false).1]) (listR intR gk (rdr (intR t) (0 : Int) false).2.1.data.toList) (rdr (intR t) (0 : Int) false).2.2 := by
  rw [listR, if_neg (by decide), if_pos rfl]
  cases h : intR t with
  | none =>
    show _ = rdrL _ _ (listR intR gk []) true
    rw [listR_nil]; rfl
  | some p =>
    obtain ⟨x, r⟩ := p
    exact rdrL_map (fun (n : Int) => n) acc x _ false
set_option maxHeartbeats 8000000 in
set_option maxRecDepth 100000 in
theorem refNums_any (g : Nat) (s : ByteArray) (bad : Bool) (hok : Okr s bad) (w0 w : World) (hI : IsS119 w0 w g s bad) (hB : Below w0.heap.size w0 w) (hs : s.size ≤ 100000) :
    Calls Tryd.prog 78 #[.pointer (some ⟨g, 0, none⟩)] w fun e w' => ∃ v0_ : Value, e = .returned v0_ ∧ Kd.R (Kd.int .i64) 3 w' w.heap.size (fun _ => True) v0_ (rdrL (fun (n : Int) => n) [] (numsR s.data.toList) bad).1 ∧
      Lg w0 w w' g (rdrL (fun (n : Int) => n) [] (numsR s.data.toList) bad).2.1 (rdrL (fun (n : Int) => n) [] (numsR s.data.toList) bad).2.2 := by
  have hg := hI.lt
  obtain ⟨i0, hi, hz0, hz1, hz2⟩ := info_parts info3
  have hz : s.size = s.data.toList.length := (len_size s).symm
  have HI := Lib.hid hI; have HB := Lib.hid hB; have HZ := Lib.hid hz; have HOK := Lib.hid hok
  clear hI hB hz hok
  go_enter Tryd.func78, Tryd.ntmps78
  go_wp2
  go_loopg [3] (s.data.toList.length + 1) (fun gk v3 wr => ∃ (acc : List Int) (q : ByteArray) (bd : Bool), Hid (Lg w0 w wr g q bd) ∧ Hid (Okr q bd) ∧ wr.ownsRow w.heap.size 3 1 v3 acc.length (acc.map (Value.int .i64)) ∧ w.heap.size ≤ wr.heap.size ∧ acc.length + q.data.toList.length ≤ 100000 ∧ q.data.toList.length < gk ∧ Hid (rdrL (fun (n : Int) => n) acc (listR intR gk q.data.toList) bd = rdrL (fun (n : Int) => n) [] (numsR s.data.toList) bad))
  case atStart => exact ⟨[], s, bad, Lib.hid ⟨HI.out, HB.out, KeepBut.refl w g none⟩, HOK, World.ownsRow_nil _ _ _ _, Nat.le_refl _, by rw [← HZ.out]; simp; exact hs, by omega, Lib.hid rfl⟩
  case round =>
    obtain ⟨acc, q, bd, hL, hQk, hown, hsz, hlen, hgk, hR⟩ := hrel
    cases gk with
    | zero => omega
    | succ gk =>
      cases hq : q.data.toList with
      | nil =>
        have HQ := Lib.hid hq
        clear hq
        go_wp2_with fail
        refine (More_n w0 _ g q bd hL.out.is hL.out.below HQ.out).mono ?_
        rintro e w1 ⟨rfl, h1⟩
        have hbc := cellS119_1 h1.is.1
        have H1 := Lib.hid h1
        clear h1
        go_wp2
        go_ret
        have e := hR.out
        rw [HQ.out, listR_nil] at e
        refine ⟨_, rfl, ?_⟩
        rw [← e]
        exact ⟨Kd.R_nil _ _ _ _ _, hL.out.trans H1.out⟩
      | cons c t =>
        obtain rfl := hQk.out.cons hq
        rw [hq] at hlen hgk
        simp only [List.length_cons] at hlen hgk
        have e := hR.out
        rw [hq] at e
        have HQ := Lib.hid hq
        clear hq hR
        by_cases h0 : c = 0
        · rw [listR, if_pos h0] at e
          have HE := Lib.hid e; have HC := Lib.hid h0
          clear e h0
          go_wp2_with fail
          refine (More_0 w0 _ g q false hL.out.is hL.out.below c t HQ.out HC.out).mono ?_
          rintro e w1 ⟨rfl, h1⟩
          have hbc := cellS119_1 h1.is.1
          have H1 := Lib.hid h1
          clear h1
          go_wp2
          go_ret
          have e := HE.out
          refine ⟨_, rfl, ?_⟩
          rw [← e]
          show Kd.R _ _ _ _ _ _ (acc ++ []) ∧ _
          rw [List.append_nil]
          exact ⟨Kd.R_of_own (h1 := fun _ => rfl) (own_kept hown (Lg.old H1.out w.heap.size hg)) (fun _ _ => trivial), hL.out.trans H1.out⟩
        · by_cases h1 : c = 1
          · subst h1
            rw [rdrL_step] at e
            have HE := Lib.hid e; have HC := Lib.hid h0
            clear e h0
            obtain ⟨x, hx⟩ : ∃ x, (rdr (intR t) (0 : Int) false).1 = x := ⟨_, rfl⟩
            have HX := Lib.hid hx
            clear hx
            go_wp2_with fail
            refine (More_1 w0 _ g q false hL.out.is hL.out.below 1 t HQ.out HC.out rfl).mono ?_
            rintro e w1 ⟨rfl, h1⟩
            have hown1 := own_kept hown (Lg.old h1 w.heap.size hg)
            have H1 := Lib.hid (hL.out.trans h1)
            clear h1 hown
            go_wp2_with fail
            refine (refInt_any g (mkB t) false w0 _ H1.out.is H1.out.below (by rw [mkB_size]; omega)).mono ?_
            rw [mkB_list, HX.out]
            rintro e w2 ⟨rfl, h2⟩
            have hown2 := own_kept hown1 (Lg.old h2 w.heap.size hg)
            have H2 := Lib.hid (H1.out.trans h2)
            have hsz2 : w.heap.size ≤ w2.heap.size := H2.out.keep.1
            clear h2 hown1
            go_wp2_with (at_builtin; refine wpList_append_own _ rfl _ _ 48 rfl w.heap.size 3 i0 (.int .i64 0) 1 8 Tryd.underlying48 hi hz0 hz1 hz2 rfl (by decide) _ _ _ rfl (hown2.alloc _) ⟨w2.heap.size, 0, none⟩ 1 1 [(Value.int .i64) x] rfl rfl ?c1 ?c2 ?c3 ?c4 ?c5 ?_)
            case c1 => exact cells_one _ _ _
            case c2 => intro u hu; simp at hu; subst hu; rfl
            case c3 => unfold maxLen; omega
            case c4 => omega
            case c5 => simp; omega
            intro v' w3 hown' hgrow _
            have hb3 : Below w.heap.size w2 w3 := ((Below.refl w.heap.size w2).alloc hsz2 _).grown hgrow (by simp; omega) (own_ge hown2)
            have H3 := Lib.hid (H2.out.more w.heap.size (Or.inr ⟨Nat.le_refl _, hg⟩) hb3)
            have hsz3 : w.heap.size ≤ w3.heap.size := H3.out.keep.1
            have hle := rdr_le t false
            clear hown2 hgrow hb3
            go_wp2
            go_roundg gk
            case measure => omega
            case rel =>
              refine ⟨acc ++ [x], _, _, H3, Lib.hid (rdr_okr t), ?_, hsz3, ?_, ?_, Lib.hid ?_⟩
              · rw [List.length_append, List.length_singleton, List.map_append]; exact hown'
              · rw [List.length_append, List.length_singleton]; omega
              · omega
              · rw [← HE.out, HX.out]
          · rw [listR, if_neg h0, if_neg h1] at e
            have HE := Lib.hid e; have HC := Lib.hid h0; have HC1 := Lib.hid h1
            clear e h0 h1
            go_wp2_with fail
            refine (More_2 w0 _ g q false hL.out.is hL.out.below c t HQ.out HC.out HC1.out).mono ?_
            rintro e w1 ⟨rfl, h1⟩
            have hbc := cellS119_1 h1.is.1
            have H1 := Lib.hid h1
            clear h1
            go_wp2
            go_ret
            have e := HE.out
            refine ⟨_, rfl, ?_⟩
            rw [← e]
            exact ⟨Kd.R_nil _ _ _ _ _, hL.out.trans H1.out⟩
#print axioms refNums_any
theorem refText_any (g : Nat) (s : ByteArray) (bad : Bool) (w0 w : World) (hI : IsS119 w0 w g s bad) (hB : Below w0.heap.size w0 w) (hs : s.size ≤ 1000000) :
    Calls Tryd.prog 75 #[.pointer (some ⟨g, 0, none⟩)] w fun e w' => e = .returned (.string (rdrS (textR s.data.toList) bad).1) ∧ Lg w0 w w' g (rdrS (textR s.data.toList) bad).2.1 (rdrS (textR s.data.toList) bad).2.2 :=
  (bourneref02_Reader_Text.calls (s.size + 1) g s bad _ _ _ w0 w hI hB (ref_RText_eq s hs bad _ (Nat.lt_succ_self _))).mono fun e w' ⟨he, h1, h2, h3⟩ => ⟨he, h1, h2, h3⟩
theorem refTexts_any (g : Nat) (s : ByteArray) (bad : Bool) (hok : Okr s bad) (w0 w : World) (hI : IsS119 w0 w g s bad) (hB : Below w0.heap.size w0 w) (hs : s.size ≤ 100000) :
    Calls Tryd.prog 81 #[.pointer (some ⟨g, 0, none⟩)] w fun e w' => ∃ v0_ : Value, e = .returned v0_ ∧ Kd.R Kd.string 9 w' w.heap.size (fun _ => True) v0_ (rdrL mkB [] (textsR s.data.toList) bad).1 ∧
      Lg w0 w w' g (rdrL mkB [] (textsR s.data.toList) bad).2.1 (rdrL mkB [] (textsR s.data.toList) bad).2.2 :=
  (bourneref02_Reader_Texts.calls _ g s bad _ _ _ w0 w hI hB (ref_RTexts_eq s hs bad hok)).mono fun e w' ⟨v, he, hr, h1, h2, h3⟩ => ⟨v, he, hr, h1, h2, h3⟩
end Go.Proofs.YtdgejkiackeieaaDoor.Wr
end
section
/- The fixed example of layer 2's laws, and wire.Num. -/
set_option linter.unusedVariables false
set_option linter.unusedSimpArgs false
namespace Go.Proofs.YtdgejkiackeieaaDoor.Wr
open Go.RowKit Go.Proofs.YtdgejkiackeieaaDoor Go.Proofs.YtdgejkiackeieaaDoor.PWr Go.Proofs.YtdgejkiackeieaaDoorW.PrintWords Go.Proofs.YtdgejkiackeieaaDoorW.PrintMore Go.Proofs.YtdgejkiackeieaaDoorW.PrintLast
/-- The encoding of a number: nothing for a negative one. -/
def numB (n : Int) : List UInt8 := if n < 0 then [] else intB n
set_option maxRecDepth 100000 in
theorem Num_any (n : Int) (w : World) (h : InR n) : Calls Tryd.prog 50 #[.int .i64 n] w fun e w' => e = .returned (.string (mkB (numB n))) ∧ Below w.heap.size w w' := by
  by_cases hn : n < 0
  · unfold numB
    rw [if_pos hn]
    go_enter Tryd.func50, Tryd.ntmps50
    go_wp2
    go_ret
    exact ⟨rfl, Below.refl _ _⟩
  · unfold numB
    rw [if_neg hn]
    have H := Lib.hid h
    clear h
    go_enter Tryd.func50, Tryd.ntmps50
    go_wp2_with fail
    refine (Int_any n w H.out).mono ?_
    rintro e w1 ⟨rfl, h1⟩
    go_wp2
    go_ret
    exact ⟨rfl, h1⟩
theorem refNum_w (n : Int) (w : World) (h : InR n) : Calls Tryd.prog 51 #[.int .i64 n] w fun e w' => e = .returned (.string (mkB (numB n))) ∧ Below w.heap.size w w' := by
  refine bourneref02_Num.calls 20 n _ w ?_
  unfold bourneref02_Num.f numB
  by_cases hn : n < 0
  · rw [if_pos hn, if_pos hn]
  · rw [if_neg hn, if_neg hn, ref_Int_eq n h 0, Option.bind_some]
theorem nil_beq (l : List UInt8) : ((mkB l).toList == ([] : List UInt8)) = decide (l = []) := by
  rw [ByteArray.toList_eq, mkB_list]
  cases l <;> rfl
set_option maxRecDepth 100000 in
theorem small_any (w : World) (hM : MaxW w) : Calls Tryd.prog 47 #[] w fun e w' => e = .returned (.bool true) ∧ Below w.heap.size w w' := by
  have HM := Lib.hid hM
  clear hM
  have e1 : rdr (numR (⟨#[129, 5, 126, 97, 0, 1]⟩ : ByteArray).data.toList) (0 : Int) false = (5, mkB [126, 97, 0, 1], false) := by rfl
  have e2 : rdr (intR (⟨#[127]⟩ : ByteArray).data.toList) (0 : Int) false = (-1, mkB [], false) := by rfl
  have E1 := Lib.hid e1; have E2 := Lib.hid e2
  clear e1 e2
  go_enter Tryd.func47, Tryd.ntmps47
  go_wp2_with fail
  refine (ROpen_any ⟨#[129, 5, 126, 97, 0, 1]⟩ w w (Below.refl _ _)).mono ?_
  rintro e w1 ⟨rfl, i1, b1, _⟩
  have I1 := Lib.hid i1; have B1 := Lib.hid b1
  clear i1 b1
  go_wp2_with fail
  refine (RNum_any _ _ _ w w1 I1.out B1.out (by decide)).mono ?_
  rw [E1.out]
  rintro e w2 ⟨rfl, i2⟩
  have I2 := Lib.hid i2
  clear i2
  go_wp2_with fail
  refine (ROpen_any ⟨#[127]⟩ w w2 I2.out.below).mono ?_
  rintro e w3 ⟨rfl, i3, b3, _⟩
  have I3 := Lib.hid i3; have B3 := Lib.hid b3
  clear i3 b3
  go_wp2_with fail
  refine (RInt_any _ _ _ w w3 I3.out B3.out (by decide)).mono ?_
  rw [E2.out]
  rintro e w4 ⟨rfl, i4⟩
  have I4 := Lib.hid i4
  clear i4
  go_wp2_with fail
  refine (RDone_any _ _ _ w w4 I4.out.is I4.out.below).mono ?_
  rw [show (!false && ((mkB []).toList == ([] : List UInt8))) = true by rw [nil_beq]; rfl]
  rintro e w5 ⟨rfl, rfl⟩
  go_wp2_with fail
  refine (Num_any 256 _ ⟨by decide, by decide⟩).mono ?_
  rintro e w6 ⟨rfl, b6⟩
  rw [show mkB (numB 256) = (⟨#[130, 1, 0]⟩ : ByteArray) from rfl]
  have B6 := Lib.hid (I4.out.below.trans (b6.mono I4.out.below.size))
  clear b6
  go_wp2_with fail
  refine (Int_any (-2) _ ⟨by decide, by decide⟩).mono ?_
  rintro e w7 ⟨rfl, b7⟩
  rw [show mkB (intB (-2)) = (⟨#[126, 254]⟩ : ByteArray) from rfl]
  have B7 := Lib.hid (B6.out.trans (b7.mono B6.out.size))
  clear b7
  go_wp2_with fail
  refine (Text_any ⟨#[97]⟩ _ (HM.out.below B7.out) (by decide)).mono ?_
  rintro e w8 ⟨rfl, b8⟩
  rw [show mkB (textB (⟨#[97]⟩ : ByteArray).data.toList) = (⟨#[97, 0, 1]⟩ : ByteArray) from rfl]
  have B8 := Lib.hid (B7.out.trans (b8.mono B7.out.size))
  clear b8
  go_wp2_with fail
  refine (Num_any (-1) _ ⟨by decide, by decide⟩).mono ?_
  rintro e w9 ⟨rfl, b9⟩
  rw [show mkB (numB (-1)) = (⟨#[]⟩ : ByteArray) from rfl]
  have B9 := Lib.hid (B8.out.trans (b9.mono B8.out.size))
  clear b9
  go_wp2
  go_ret
  exact ⟨rfl, B9.out⟩
#print axioms small_any
end Go.Proofs.YtdgejkiackeieaaDoor.Wr
end
section
/- The walk of WireReads: two readers side by side. -/
set_option linter.unusedVariables false
set_option linter.unusedSimpArgs false
namespace Go.Proofs.YtdgejkiackeieaaDoor.Wr
open Go.RowKit Go.Proofs.YtdgejkiackeieaaDoor Go.Proofs.YtdgejkiackeieaaDoor.PWr Go.Proofs.YtdgejkiackeieaaDoorW.PrintWords Go.Proofs.YtdgejkiackeieaaDoorW.PrintMore Go.Proofs.YtdgejkiackeieaaDoorW.PrintLast
theorem listR_small {α : Type} (one : List UInt8 → Option (α × List UInt8)) (h1 : ∀ l x r, one l = some (x, r) → r.length ≤ l.length) (f : Nat) : ∀ (l : List UInt8) (xs : List α) (r : List UInt8), listR one f l = some (xs, r) → r.length ≤ l.length ∧ xs.length ≤ l.length := by
  induction f with
  | zero => intro l xs r h; cases h
  | succ f ih =>
    intro l xs r h
    cases l with
    | nil => cases h
    | cons c t =>
      rw [listR] at h
      by_cases h0 : c = 0
      · rw [if_pos h0] at h; cases h; simp
      · rw [if_neg h0] at h
        by_cases hc : c = 1
        · rw [if_pos hc] at h
          cases ho : one t with
          | none => rw [ho] at h; cases h
          | some p =>
            obtain ⟨x, t'⟩ := p
            rw [ho] at h
            simp only [Option.map_eq_some_iff] at h
            obtain ⟨⟨ys, r'⟩, hy, he⟩ := h
            cases he
            have := ih t' ys r' hy
            have := h1 t x t' ho
            simp only [List.length_cons]; omega
        · rw [if_neg hc] at h; cases h
theorem int_small (l : List UInt8) (x : Int) (r : List UInt8) (h : intR l = some (x, r)) : r.length ≤ l.length := Nat.le_of_lt (intR_length l x r h)
theorem text_small (l : List UInt8) (x : List UInt8) (r : List UInt8) (h : textR l = some (x, r)) : r.length ≤ l.length := by have := textR_length l x r h; omega
theorem num_small (l : List UInt8) (x : Int) (r : List UInt8) (h : numR l = some (x, r)) : r.length ≤ l.length := by
  cases ho : intR l with
  | none => rw [numR_none ho] at h; cases h
  | some p =>
    obtain ⟨n, r'⟩ := p
    by_cases hn : n < 0
    · rw [numR_neg ho hn] at h; cases h
    · rw [numR_some ho hn] at h; cases h; exact int_small l _ _ ho
/-- Two readers, one of each kind, that stand alike. -/
structure Two (w0 w : World) (g1 g2 : Nat) (q : ByteArray) (bad : Bool) : Prop where
  a : IsS117 w0 w g1 q bad
  b : IsS119 w0 w g2 q bad
  below : Below w0.heap.size w0 w
  ne : g1 ≠ g2
  ok : Okr q bad
  sz : q.size ≤ 1000
theorem Lf.other {w0 w w' : World} {g g2 : Nat} {s t : ByteArray} {bad b2 : Bool} (h : Lf w0 w w' g s bad) (k : IsS119 w0 w g2 t b2) (hne : g ≠ g2) : IsS119 w0 w' g2 t b2 := ⟨(h.keep.2 g2 k.lt (fun e => hne e.symm) (by simp)).trans k.1, k.2⟩
theorem Lg.other {w0 w w' : World} {g g2 : Nat} {s t : ByteArray} {bad b2 : Bool} (h : Lg w0 w w' g s bad) (k : IsS117 w0 w g2 t b2) (hne : g2 ≠ g) : IsS117 w0 w' g2 t b2 := ⟨(h.keep.2 g2 k.lt hne (by simp)).trans k.1, k.2⟩
theorem Two.step {w0 w w1 w2 : World} {g1 g2 : Nat} {q q' : ByteArray} {bad bad' : Bool} (T : Two w0 w g1 g2 q bad) (h1 : Lf w0 w w1 g1 q' bad') (h2 : Lg w0 w1 w2 g2 q' bad') (hok : Okr q' bad' ∧ q'.size ≤ 1000) : Two w0 w2 g1 g2 q' bad' :=
  ⟨h2.other h1.is T.ne, h2.is, h2.below, T.ne, hok.1, hok.2⟩
theorem Two.more {w0 w w1 : World} {g1 g2 : Nat} {q : ByteArray} {bad : Bool} (T : Two w0 w g1 g2 q bad) (h : Below w.heap.size w w1) : Two w0 w1 g1 g2 q bad :=
  ⟨T.a.below h, ⟨(h.block g2 T.b.lt).trans T.b.1, T.b.2⟩, T.below.trans (h.mono T.below.size), T.ne, T.ok, T.sz⟩
theorem okr_gen {α : Type} (f : List UInt8 → Option (α × List UInt8)) (hn : f [] = none) (hl : ∀ l x r, f l = some (x, r) → r.length ≤ l.length) (q : ByteArray) (bad : Bool) (hq : Okr q bad) (hs : q.size ≤ 1000) :
    (f q.data.toList = none ∧ Okr (mkB []) true ∧ (mkB []).size ≤ 1000) ∨ (∃ x r, f q.data.toList = some (x, r) ∧ Okr (mkB r) bad ∧ (mkB r).size ≤ 1000) := by
  cases h : f q.data.toList with
  | none => exact Or.inl ⟨rfl, fun _ => rfl, by decide⟩
  | some p =>
    obtain ⟨x, r⟩ := p
    have := hl _ _ _ h
    rw [len_size] at this
    refine Or.inr ⟨x, r, rfl, fun hb => ?_, by rw [mkB_size]; omega⟩
    rw [hq hb, mkB_list, hn] at h; cases h
theorem rdr_okr' {α : Type} (f : List UInt8 → Option (α × List UInt8)) (d : α) (hn : f [] = none) (hl : ∀ l x r, f l = some (x, r) → r.length ≤ l.length) (q : ByteArray) (bad : Bool) (hq : Okr q bad) (hs : q.size ≤ 1000) :
    Okr (rdr (f q.data.toList) d bad).2.1 (rdr (f q.data.toList) d bad).2.2 ∧ (rdr (f q.data.toList) d bad).2.1.size ≤ 1000 := by
  rcases okr_gen f hn hl q bad hq hs with ⟨h, k⟩ | ⟨x, r, h, k⟩ <;> rw [h] <;> exact k
theorem rdrS_okr' (q : ByteArray) (bad : Bool) (hq : Okr q bad) (hs : q.size ≤ 1000) :
    Okr (rdrS (textR q.data.toList) bad).2.1 (rdrS (textR q.data.toList) bad).2.2 ∧ (rdrS (textR q.data.toList) bad).2.1.size ≤ 1000 := by
  rcases okr_gen textR rfl text_small q bad hq hs with ⟨h, k⟩ | ⟨x, r, h, k⟩ <;> rw [h] <;> exact k
theorem rdrL_okr' {α β : Type} (f : List UInt8 → Option (List α × List UInt8)) (m : α → β) (hn : f [] = none) (hl : ∀ l x r, f l = some (x, r) → r.length ≤ l.length ∧ x.length ≤ l.length) (q : ByteArray) (bad : Bool) (hq : Okr q bad) (hs : q.size ≤ 1000) :
    (Okr (rdrL m [] (f q.data.toList) bad).2.1 (rdrL m [] (f q.data.toList) bad).2.2 ∧ (rdrL m [] (f q.data.toList) bad).2.1.size ≤ 1000) ∧ (rdrL m [] (f q.data.toList) bad).1.length ≤ 1000 := by
  rcases okr_gen f hn (fun l x r h => (hl l x r h).1) q bad hq hs with ⟨h, k⟩ | ⟨x, r, h, k⟩
  · rw [h]; exact ⟨k, by simp [rdrL]⟩
  · have := (hl _ _ _ h).2
    rw [len_size] at this
    rw [h]; exact ⟨k, by simp [rdrL]; omega⟩
theorem nums_small (l : List UInt8) (x : List Int) (r : List UInt8) (h : numsR l = some (x, r)) : r.length ≤ l.length ∧ x.length ≤ l.length := listR_small intR int_small _ l x r h
theorem texts_small (l : List UInt8) (x : List (List UInt8)) (r : List UInt8) (h : textsR l = some (x, r)) : r.length ≤ l.length ∧ x.length ≤ l.length := listR_small textR text_small _ l x r h
set_option maxHeartbeats 8000000 in
set_option maxRecDepth 100000 in
theorem WireReads_any (s : ByteArray) (A : Option Addr) (c : Nat) (l : List Int) (w : World) (hM : MaxW w) (hR : Kd.C (Kd.int .u8) w A l.length l) (hc : l.length ≤ c) (hwf : ∀ x ∈ l, 0 ≤ x ∧ x < 256) :
    Calls Tryd.prog 19 #[.string s, .slice A l.length c] w fun e w' => e = .returned (.bool true) ∧ Below w.heap.size w w' := by
  have HM := Lib.hid hM; have HR := Lib.hid hR; have HWF := Lib.hid hwf
  clear hM hR hwf
  by_cases h1 : 1000 < s.size
  · have i1 : (1000 : Int) < (s.size : Int) := by omega
    go_enter Tryd.func19, Tryd.ntmps19
    go_wp2_with fail
    refine (small_any w HM.out).mono ?_
    rintro e w1 ⟨rfl, b1⟩
    go_wp2
    go_ret
    exact ⟨rfl, b1⟩
  by_cases h2 : 30 < l.length
  · have i1 : ¬ (1000 : Int) < (s.size : Int) := by omega
    have i2 : (30 : Int) < (l.length : Int) := by omega
    go_enter Tryd.func19, Tryd.ntmps19
    go_wp2_with fail
    refine (small_any w HM.out).mono ?_
    rintro e w1 ⟨rfl, b1⟩
    go_wp2
    go_ret
    exact ⟨rfl, b1⟩
  have i1 : ¬ (1000 : Int) < (s.size : Int) := by omega
  have i2 : ¬ (30 : Int) < (l.length : Int) := by omega
  go_enter Tryd.func19, Tryd.ntmps19
  go_wp2_with fail
  refine (small_any w HM.out).mono ?_
  rintro e w1 ⟨rfl, b1⟩
  have B1 := Lib.hid b1; clear b1
  go_wp2_with fail
  refine (ROpen_any s w _ B1.out).mono ?_
  rintro e w2 ⟨rfl, s2, b2, _⟩
  have S2 := Lib.hid s2; have B2 := Lib.hid b2
  have g2lt := s2.lt
  clear s2 b2
  go_wp2_with fail
  refine (refOpen_any s w _ B2.out).mono ?_
  rintro e w3 ⟨rfl, s3, b3, k3⟩
  have TT0 : Hid (Two w w3 w1.heap.size w2.heap.size s false) := Lib.hid ⟨S2.out.below k3, s3, b3, by omega, (fun h => by cases h), by omega⟩
  obtain ⟨g1, hg1⟩ : ∃ g1, w1.heap.size = g1 := ⟨_, rfl⟩
  obtain ⟨g2, hg2⟩ : ∃ g2, w2.heap.size = g2 := ⟨_, rfl⟩
  rw [hg1, hg2] at TT0
  rw [hg1, hg2]
  clear s3 b3 k3 S2 B2 B1 g2lt hg1 hg2
  go_wp2
  go_loopw [8, 9] (fun v8 v9 wr => ∃ (k : Nat) (q : ByteArray) (bad : Bool), k ≤ l.length ∧ v8 = .int .i64 k ∧ Hid (Two w wr g1 g2 q bad)) (fun v8 _ _ => l.length - (intOf v8).toNat)
  case atStart => exact ⟨0, s, false, by omega, rfl, TT0⟩
  case round =>
    obtain ⟨k, q, bad, hk, rfl, TT⟩ := hrel
    by_cases hlt : k < l.length
    · obtain ⟨ad, hA, hcell⟩ := Kd.at_int HR.out (k : Int) (by omega) (by omega)
      subst hA
      have hg : rd l (k : Int) = l[k] := rd_nat k hlt
      rw [hg] at hcell
      have hcell' := (TT.out.below.cell (World.block_lt_of_cell? w _ hcell)).trans hcell
      have hw := HWF.out _ (List.getElem_mem hlt)
      obtain ⟨x0, hx0⟩ : ∃ x, l[k] = x := ⟨_, rfl⟩
      rw [hx0] at hcell' hw
      rw [Int.toNat_natCast] at hcell'
      obtain ⟨w0, w1⟩ := hw
      clear hcell hg hx0 TT0
      obtain ⟨m, hm⟩ : ∃ m, x0 % 5 = m := ⟨_, rfl⟩
      have hm1 : Int.tmod x0 5 = m := by rw [Int.tmod_eq_emod_of_nonneg w0]; exact hm
      have hm2 : (Int.tmod x0 5) % 256 = m := by rw [hm1]; omega
      have m0 : 0 ≤ m := by omega
      have m5 : m < 5 := by omega
      by_cases k0 : m = 0
      · subst k0
        have ho := rdr_okr' numR (0 : Int) rfl num_small q bad TT.out.ok TT.out.sz
        obtain ⟨x, hx⟩ : ∃ x, (rdr (numR q.data.toList) 0 bad).1 = x := ⟨_, rfl⟩
        obtain ⟨q', hq'⟩ : ∃ x, (rdr (numR q.data.toList) 0 bad).2.1 = x := ⟨_, rfl⟩
        obtain ⟨b', hb'⟩ : ∃ x, (rdr (numR q.data.toList) 0 bad).2.2 = x := ⟨_, rfl⟩
        rw [hq', hb'] at ho
        obtain ⟨bb, hbb⟩ : ∃ bb, (!b' && (q'.toList == ([] : List UInt8))) = bb := ⟨_, rfl⟩
        have HO := Lib.hid ho; have HX := Lib.hid hx; have HQ := Lib.hid hq'; have HB' := Lib.hid hb'; have HBB := Lib.hid hbb
        have z1 : q.size ≤ 1000 := TT.out.sz
        clear ho hx hq' hb' hbb
        go_wp2_with fail
        refine (RNum_any g1 q bad w _ TT.out.a TT.out.below (by omega)).mono ?_
        rw [HX.out, HQ.out, HB'.out]
        rintro e w4 ⟨rfl, h4⟩
        have H4 := Lib.hid h4; clear h4
        go_wp2_with fail
        refine (refNum_any g2 q bad w _ (H4.out.other TT.out.b TT.out.ne) H4.out.below (by omega)).mono ?_
        rw [HX.out, HQ.out, HB'.out]
        rintro e w5 ⟨rfl, h5⟩
        have T' := Lib.hid (TT.out.step H4.out h5 HO.out)
        have hbb := HBB.out
        clear h5
        go_wp2_with fail
        refine (RLeft_any g1 q' b' w _ T'.out.a T'.out.below).mono ?_
        rintro e w6 ⟨rfl, rfl⟩
        go_wp2_with fail
        refine (refLeft_any g2 q' b' w _ T'.out.b T'.out.below).mono ?_
        rintro e w6 ⟨rfl, rfl⟩
        go_wp2_with fail
        refine (RDone_any g1 q' b' w _ T'.out.a T'.out.below).mono ?_
        rw [hbb]
        rintro e w6 ⟨rfl, rfl⟩
        go_wp2_with fail
        refine (refDone_any g2 q' b' w _ T'.out.b T'.out.below).mono ?_
        rw [hbb]
        rintro e w6 ⟨rfl, rfl⟩
        go_wp2
        go_roundw
        case rel => exact ⟨k + 1, q', b', by omega, by go_num, T'⟩
        case measure => simp [intOf]; omega
      by_cases k1 : m = 1
      · subst k1
        have ho := rdr_okr' intR (0 : Int) rfl int_small q bad TT.out.ok TT.out.sz
        obtain ⟨x, hx⟩ : ∃ x, (rdr (intR q.data.toList) 0 bad).1 = x := ⟨_, rfl⟩
        obtain ⟨q', hq'⟩ : ∃ x, (rdr (intR q.data.toList) 0 bad).2.1 = x := ⟨_, rfl⟩
        obtain ⟨b', hb'⟩ : ∃ x, (rdr (intR q.data.toList) 0 bad).2.2 = x := ⟨_, rfl⟩
        rw [hq', hb'] at ho
        obtain ⟨bb, hbb⟩ : ∃ bb, (!b' && (q'.toList == ([] : List UInt8))) = bb := ⟨_, rfl⟩
        have HO := Lib.hid ho; have HX := Lib.hid hx; have HQ := Lib.hid hq'; have HB' := Lib.hid hb'; have HBB := Lib.hid hbb
        have z1 : q.size ≤ 1000 := TT.out.sz
        clear ho hx hq' hb' hbb
        go_wp2_with fail
        refine (RInt_any g1 q bad w _ TT.out.a TT.out.below (by omega)).mono ?_
        rw [HX.out, HQ.out, HB'.out]
        rintro e w4 ⟨rfl, h4⟩
        have H4 := Lib.hid h4; clear h4
        go_wp2_with fail
        refine (refInt_any g2 q bad w _ (H4.out.other TT.out.b TT.out.ne) H4.out.below (by omega)).mono ?_
        rw [HX.out, HQ.out, HB'.out]
        rintro e w5 ⟨rfl, h5⟩
        have T' := Lib.hid (TT.out.step H4.out h5 HO.out)
        have hbb := HBB.out
        clear h5
        go_wp2_with fail
        refine (RLeft_any g1 q' b' w _ T'.out.a T'.out.below).mono ?_
        rintro e w6 ⟨rfl, rfl⟩
        go_wp2_with fail
        refine (refLeft_any g2 q' b' w _ T'.out.b T'.out.below).mono ?_
        rintro e w6 ⟨rfl, rfl⟩
        go_wp2_with fail
        refine (RDone_any g1 q' b' w _ T'.out.a T'.out.below).mono ?_
        rw [hbb]
        rintro e w6 ⟨rfl, rfl⟩
        go_wp2_with fail
        refine (refDone_any g2 q' b' w _ T'.out.b T'.out.below).mono ?_
        rw [hbb]
        rintro e w6 ⟨rfl, rfl⟩
        go_wp2
        go_roundw
        case rel => exact ⟨k + 1, q', b', by omega, by go_num, T'⟩
        case measure => simp [intOf]; omega
      by_cases k2 : m = 2
      · subst k2
        have ho := rdrS_okr' q bad TT.out.ok TT.out.sz
        obtain ⟨x, hx⟩ : ∃ x, (rdrS (textR q.data.toList) bad).1 = x := ⟨_, rfl⟩
        obtain ⟨q', hq'⟩ : ∃ x, (rdrS (textR q.data.toList) bad).2.1 = x := ⟨_, rfl⟩
        obtain ⟨b', hb'⟩ : ∃ x, (rdrS (textR q.data.toList) bad).2.2 = x := ⟨_, rfl⟩
        rw [hq', hb'] at ho
        obtain ⟨bb, hbb⟩ : ∃ bb, (!b' && (q'.toList == ([] : List UInt8))) = bb := ⟨_, rfl⟩
        have HO := Lib.hid ho; have HX := Lib.hid hx; have HQ := Lib.hid hq'; have HB' := Lib.hid hb'; have HBB := Lib.hid hbb
        have z1 : q.size ≤ 1000 := TT.out.sz
        clear ho hx hq' hb' hbb
        go_wp2_with fail
        refine (RText_any g1 q bad w _ TT.out.a TT.out.below (by omega)).mono ?_
        rw [HX.out, HQ.out, HB'.out]
        rintro e w4 ⟨rfl, h4⟩
        have H4 := Lib.hid h4; clear h4
        go_wp2_with fail
        refine (refText_any g2 q bad w _ (H4.out.other TT.out.b TT.out.ne) H4.out.below (by omega)).mono ?_
        rw [HX.out, HQ.out, HB'.out]
        rintro e w5 ⟨rfl, h5⟩
        have T' := Lib.hid (TT.out.step H4.out h5 HO.out)
        have hbb := HBB.out
        clear h5
        go_wp2_with fail
        refine (RLeft_any g1 q' b' w _ T'.out.a T'.out.below).mono ?_
        rintro e w6 ⟨rfl, rfl⟩
        go_wp2_with fail
        refine (refLeft_any g2 q' b' w _ T'.out.b T'.out.below).mono ?_
        rintro e w6 ⟨rfl, rfl⟩
        go_wp2_with fail
        refine (RDone_any g1 q' b' w _ T'.out.a T'.out.below).mono ?_
        rw [hbb]
        rintro e w6 ⟨rfl, rfl⟩
        go_wp2_with fail
        refine (refDone_any g2 q' b' w _ T'.out.b T'.out.below).mono ?_
        rw [hbb]
        rintro e w6 ⟨rfl, rfl⟩
        go_wp2
        go_roundw
        case rel => exact ⟨k + 1, q', b', by omega, by go_num, T'⟩
        case measure => simp [intOf]; omega
      by_cases k3 : m = 3
      · subst k3
        have ho := rdrL_okr' numsR (fun (n : Int) => n) rfl nums_small q bad TT.out.ok TT.out.sz
        obtain ⟨x, hx⟩ : ∃ x, (rdrL (fun (n : Int) => n) [] (numsR q.data.toList) bad).1 = x := ⟨_, rfl⟩
        obtain ⟨q', hq'⟩ : ∃ x, (rdrL (fun (n : Int) => n) [] (numsR q.data.toList) bad).2.1 = x := ⟨_, rfl⟩
        obtain ⟨b', hb'⟩ : ∃ x, (rdrL (fun (n : Int) => n) [] (numsR q.data.toList) bad).2.2 = x := ⟨_, rfl⟩
        rw [hx, hq', hb'] at ho
        obtain ⟨bb, hbb⟩ : ∃ bb, (!b' && (q'.toList == ([] : List UInt8))) = bb := ⟨_, rfl⟩
        obtain ⟨ho, hxl⟩ := ho
        have HO := Lib.hid ho; have HX := Lib.hid hx; have HQ := Lib.hid hq'; have HB' := Lib.hid hb'; have HBB := Lib.hid hbb
        have z1 : q.size ≤ 1000 := TT.out.sz
        clear ho hx hq' hb' hbb
        go_wp2_with fail
        refine (RNums_any g1 q bad TT.out.ok w _ TT.out.a TT.out.below (by omega)).mono ?_
        rw [HX.out, HQ.out, HB'.out]
        rintro e w4 ⟨v1, rfl, r1, h4⟩
        have H4 := Lib.hid h4; have R1 := Lib.hid r1; clear h4 r1
        go_wp2_with fail
        refine (refNums_any g2 q bad TT.out.ok w _ (H4.out.other TT.out.b TT.out.ne) H4.out.below (by omega)).mono ?_
        rw [HX.out, HQ.out, HB'.out]
        rintro e w5 ⟨v2, rfl, r2, h5⟩
        have r1 := Kd.R_keep (Kd.R_bound R1.out) h5.keep (fun k' h' => by have := TT.out.b.lt; have := h'.2.1; omega)
        have T5 := Lib.hid (TT.out.step H4.out h5 HO.out)
        obtain ⟨A1, c1, rfl, hc1, hC1⟩ := Kd.R_reads r1
        obtain ⟨A2, c2, rfl, hc2, hC2⟩ := Kd.R_reads r2
        have HC1 := Lib.hid hC1; have HC2 := Lib.hid hC2; have hbb := HBB.out
        clear r1 r2 h5 R1 hC1 hC2
        go_wp2_with fail
        refine (bourneref02_SameNums.calls (x.length + 1) A1 c1 x A2 c2 x true _ HC1.out hc1 HC2.out hc2 ((SameNums_eq x x (by omega)).trans (by rw [decide_eq_true rfl]))).mono ?_
        rintro e w6' ⟨rfl, hd⟩
        have T' := Lib.hid (T5.out.more hd.below)
        clear hd
        go_wp2_with fail
        refine (RLeft_any g1 q' b' w _ T'.out.a T'.out.below).mono ?_
        rintro e w6 ⟨rfl, rfl⟩
        go_wp2_with fail
        refine (refLeft_any g2 q' b' w _ T'.out.b T'.out.below).mono ?_
        rintro e w6 ⟨rfl, rfl⟩
        go_wp2_with fail
        refine (RDone_any g1 q' b' w _ T'.out.a T'.out.below).mono ?_
        rw [hbb]
        rintro e w6 ⟨rfl, rfl⟩
        go_wp2_with fail
        refine (refDone_any g2 q' b' w _ T'.out.b T'.out.below).mono ?_
        rw [hbb]
        rintro e w6 ⟨rfl, rfl⟩
        go_wp2
        go_roundw
        case rel => exact ⟨k + 1, q', b', by omega, by go_num, T'⟩
        case measure => simp [intOf]; omega
      have ho := rdrL_okr' textsR mkB rfl texts_small q bad TT.out.ok TT.out.sz
      obtain ⟨x, hx⟩ : ∃ x, (rdrL mkB [] (textsR q.data.toList) bad).1 = x := ⟨_, rfl⟩
      obtain ⟨q', hq'⟩ : ∃ x, (rdrL mkB [] (textsR q.data.toList) bad).2.1 = x := ⟨_, rfl⟩
      obtain ⟨b', hb'⟩ : ∃ x, (rdrL mkB [] (textsR q.data.toList) bad).2.2 = x := ⟨_, rfl⟩
      rw [hx, hq', hb'] at ho
      obtain ⟨bb, hbb⟩ : ∃ bb, (!b' && (q'.toList == ([] : List UInt8))) = bb := ⟨_, rfl⟩
      obtain ⟨ho, hxl⟩ := ho
      have HO := Lib.hid ho; have HX := Lib.hid hx; have HQ := Lib.hid hq'; have HB' := Lib.hid hb'; have HBB := Lib.hid hbb
      have z1 : q.size ≤ 1000 := TT.out.sz
      clear ho hx hq' hb' hbb
      go_wp2_with fail
      refine (RTexts_any g1 q bad TT.out.ok w _ TT.out.a TT.out.below (by omega)).mono ?_
      rw [HX.out, HQ.out, HB'.out]
      rintro e w4 ⟨v1, rfl, r1, h4⟩
      have H4 := Lib.hid h4; have R1 := Lib.hid r1; clear h4 r1
      go_wp2_with fail
      refine (refTexts_any g2 q bad TT.out.ok w _ (H4.out.other TT.out.b TT.out.ne) H4.out.below (by omega)).mono ?_
      rw [HX.out, HQ.out, HB'.out]
      rintro e w5 ⟨v2, rfl, r2, h5⟩
      have r1 := Kd.R_keep (Kd.R_bound R1.out) h5.keep (fun k' h' => by have := TT.out.b.lt; have := h'.2.1; omega)
      have T5 := Lib.hid (TT.out.step H4.out h5 HO.out)
      obtain ⟨A1, c1, rfl, hc1, hC1⟩ := Kd.R_reads r1
      obtain ⟨A2, c2, rfl, hc2, hC2⟩ := Kd.R_reads r2
      have HC1 := Lib.hid hC1; have HC2 := Lib.hid hC2; have hbb := HBB.out
      clear r1 r2 h5 R1 hC1 hC2
      go_wp2_with fail
      refine (bourneref02_SameTexts.calls (x.length + 1) A1 c1 x A2 c2 x true _ HC1.out hc1 HC2.out hc2 ((SameTexts_eq x x (by omega)).trans (by rw [decide_eq_true rfl]))).mono ?_
      rintro e w6' ⟨rfl, hd⟩
      have T' := Lib.hid (T5.out.more hd.below)
      clear hd
      go_wp2_with fail
      refine (RLeft_any g1 q' b' w _ T'.out.a T'.out.below).mono ?_
      rintro e w6 ⟨rfl, rfl⟩
      go_wp2_with fail
      refine (refLeft_any g2 q' b' w _ T'.out.b T'.out.below).mono ?_
      rintro e w6 ⟨rfl, rfl⟩
      go_wp2_with fail
      refine (RDone_any g1 q' b' w _ T'.out.a T'.out.below).mono ?_
      rw [hbb]
      rintro e w6 ⟨rfl, rfl⟩
      go_wp2_with fail
      refine (refDone_any g2 q' b' w _ T'.out.b T'.out.below).mono ?_
      rw [hbb]
      rintro e w6 ⟨rfl, rfl⟩
      go_wp2
      go_roundw
      case rel => exact ⟨k + 1, q', b', by omega, by go_num, T'⟩
      case measure => simp [intOf]; omega
    · obtain rfl : k = l.length := by omega
      go_wp2
      go_ret
      exact ⟨rfl, TT.out.below⟩
#print axioms WireReads_any
end Go.Proofs.YtdgejkiackeieaaDoor.Wr
end
section
/- The walk of WireOnly: what a reader returns, written again, is what it has read. -/
set_option linter.unusedVariables false
set_option linter.unusedSimpArgs false
namespace Go.Proofs.YtdgejkiackeieaaDoor.Wr
open Go.RowKit Go.Proofs.YtdgejkiackeieaaDoor Go.Proofs.YtdgejkiackeieaaDoor.PWr Go.Proofs.YtdgejkiackeieaaDoorW.PrintWords Go.Proofs.YtdgejkiackeieaaDoorW.PrintMore Go.Proofs.YtdgejkiackeieaaDoorW.PrintLast
theorem begins_true (s t : ByteArray) (h : t.data.toList <+: s.data.toList) : t.size ≤ s.size ∧ s.extract 0 t.size = t := by
  have hl := h.length_le
  rw [len_size, len_size] at hl
  refine ⟨hl, ?_⟩
  rw [extract_take]
  apply ext_
  rw [mkB_list, ← len_size]
  exact (List.prefix_iff_eq_take.1 h).symm
theorem begins_false (s t : ByteArray) (h : ¬ t.data.toList <+: s.data.toList) : ¬ s.extract 0 t.size = t := by
  intro e
  refine h ?_
  rw [extract_take] at e
  have := congrArg (fun b => b.data.toList) e
  simp only [mkB_list] at this
  rw [← this]
  exact List.take_prefix _ _
set_option maxRecDepth 100000 in
theorem begins_any (s t : ByteArray) (w : World) : Calls Tryd.prog 60 #[.string s, .string t] w fun e w' => e = .returned (.bool (decide (t.data.toList <+: s.data.toList))) ∧ w' = w := by
  by_cases h : t.data.toList <+: s.data.toList
  · obtain ⟨h1, h2⟩ := begins_true s t h
    rw [decide_eq_true h]
    have i1 : (t.size : Int) ≤ (s.size : Int) := by omega
    obtain ⟨E, hE⟩ : ∃ E, s.extract 0 t.size = E := ⟨_, rfl⟩
    rw [hE] at h2
    have e1 : (E.toList == t.toList) = true := by rw [h2]; exact beq_self_eq_true _
    have HE := Lib.hid hE
    clear h h1 h2
    go_enter Tryd.func60, Tryd.ntmps60
    go_wp2
    go_ret
    exact ⟨by first | rfl | (simp [e1]; done), rfl⟩
  · have h2 := begins_false s t h
    rw [decide_eq_false h]
    by_cases h1 : t.size ≤ s.size
    · have i1 : (t.size : Int) ≤ (s.size : Int) := by omega
      obtain ⟨E, hE⟩ : ∃ E, s.extract 0 t.size = E := ⟨_, rfl⟩
      rw [hE] at h2
      have e1 : (E.toList == t.toList) = false := beq_eq_false_iff_ne.2 (fun h => h2 (ext_l h))
      have HE := Lib.hid hE
      clear h h2
      go_enter Tryd.func60, Tryd.ntmps60
      go_wp2
      go_ret
      exact ⟨by first | rfl | (simp [e1]; done), rfl⟩
    · have i1 : ¬ (t.size : Int) ≤ (s.size : Int) := by omega
      clear h h2
      go_enter Tryd.func60, Tryd.ntmps60
      go_wp2
      go_ret
      exact ⟨rfl, rfl⟩
/-- What reading leaves, told of the whole text: it goes on, or it has failed and what would be written does not end the text. -/
def Case (S G E : List UInt8) (q : ByteArray) (b : Bool) : Prop := (b = false ∧ S = (G ++ E) ++ q.data.toList) ∨ (b = true ∧ q = mkB [] ∧ S ≠ G ++ E)
theorem only_gen {α : Type} (f : List UInt8 → Option (α × List UInt8)) (enc : α → List UInt8) (d : α) (P : α → Prop) (hinv : ∀ l x r, f l = some (x, r) → l = enc x ++ r ∧ P x) (hd : f (enc d) ≠ none) (hP : P d) (S G : List UInt8) (q : ByteArray) (hS : S = G ++ q.data.toList) :
    (∃ x r, f q.data.toList = some (x, r) ∧ P x ∧ (enc x).length ≤ S.length ∧ Case S G (enc x) (mkB r) false) ∨ (f q.data.toList = none ∧ P d ∧ Case S G (enc d) (mkB []) true) := by
  cases h : f q.data.toList with
  | none => exact Or.inr ⟨rfl, hP, Or.inr ⟨rfl, rfl, fun e => by rw [hS] at e; have := List.append_cancel_left e; rw [this] at h; exact hd h⟩⟩
  | some p =>
    obtain ⟨x, r⟩ := p
    obtain ⟨h1, h2⟩ := hinv _ x r h
    exact Or.inl ⟨x, r, rfl, h2, by rw [hS, h1]; simp; omega, Or.inl ⟨rfl, by rw [hS, h1, mkB_list, List.append_assoc]⟩⟩
theorem num_inv (l : List UInt8) (x : Int) (r : List UInt8) (h : numR l = some (x, r)) : l = numB x ++ r ∧ InR x := by
  cases ho : intR l with
  | none => rw [numR_none ho] at h; cases h
  | some p =>
    obtain ⟨n, r'⟩ := p
    by_cases hn : n < 0
    · rw [numR_neg ho hn] at h; cases h
    · rw [numR_some ho hn] at h; cases h
      unfold numB
      rw [if_neg hn]
      exact intB_intR l _ _ ho
theorem only_num (S G : List UInt8) (q : ByteArray) (hS : S = G ++ q.data.toList) (hz : S.length ≤ 1000) : ∃ x q' b', rdr (numR q.data.toList) 0 false = (x, q', b') ∧ InR x ∧ (numB x).length ≤ 1000 ∧ Case S G (numB x) q' b' := by
  rcases only_gen numR numB 0 InR num_inv (by decide) ⟨by decide, by decide⟩ S G q hS with ⟨x, r, h, hP, hl, hC⟩ | ⟨h, hP, hC⟩
  · exact ⟨x, mkB r, false, by rw [h]; rfl, hP, by omega, hC⟩
  · exact ⟨0, mkB [], true, by rw [h]; rfl, hP, by decide, hC⟩
theorem only_int (S G : List UInt8) (q : ByteArray) (hS : S = G ++ q.data.toList) (hz : S.length ≤ 1000) : ∃ x q' b', rdr (intR q.data.toList) 0 false = (x, q', b') ∧ InR x ∧ (intB x).length ≤ 1000 ∧ Case S G (intB x) q' b' := by
  rcases only_gen intR intB 0 InR intB_intR (by decide) ⟨by decide, by decide⟩ S G q hS with ⟨x, r, h, hP, hl, hC⟩ | ⟨h, hP, hC⟩
  · exact ⟨x, mkB r, false, by rw [h]; rfl, hP, by omega, hC⟩
  · exact ⟨0, mkB [], true, by rw [h]; rfl, hP, by decide, hC⟩
theorem len_text (x : List UInt8) : x.length ≤ (textB x).length := by
  induction x with
  | nil => simp
  | cons c x ih => rw [textB_cons]; split <;> simp only [List.length_append, List.length_cons, List.length_nil] <;> omega
theorem only_text (S G : List UInt8) (q : ByteArray) (hS : S = G ++ q.data.toList) (hz : S.length ≤ 1000) : ∃ x q' b', rdrS (textR q.data.toList) false = (x, q', b') ∧ x.size ≤ 1000 ∧ (textB x.data.toList).length ≤ 1000 ∧ Case S G (textB x.data.toList) q' b' := by
  rcases only_gen textR textB [] (fun _ => True) (fun l x r h => ⟨textB_textR l x r h, trivial⟩) (by decide) trivial S G q hS with ⟨x, r, h, hP, hl, hC⟩ | ⟨h, hP, hC⟩
  · have := len_text x
    exact ⟨mkB x, mkB r, false, by rw [h]; rfl, by rw [mkB_size]; omega, by rw [mkB_list]; omega, hC⟩
  · exact ⟨mkB [], mkB [], true, by rw [h]; rfl, by decide, by decide, hC⟩
theorem listB_mem {α : Type} (enc : α → List UInt8) (x : α) (l : List α) (h : x ∈ l) : (enc x).length ≤ (listB enc l).length ∧ l.length ≤ (listB enc l).length := by
  induction l with
  | nil => cases h
  | cons y l ih =>
    rw [listB_cons]
    simp only [List.length_cons, List.length_append]
    have hl : l.length ≤ (listB enc l).length := by
      cases l with
      | nil => simp
      | cons z l => exact (by
          have : ∀ m : List α, m.length ≤ (listB enc m).length := fun m => by
            induction m with
            | nil => simp
            | cons a m ih => rw [listB_cons]; simp only [List.length_cons, List.length_append]; omega
          exact this _)
    rcases List.mem_cons.1 h with rfl | h
    · omega
    · have := ih h; omega
theorem listB_len {α : Type} (enc : α → List UInt8) (l : List α) : l.length ≤ (listB enc l).length := by
  cases l with
  | nil => simp
  | cons a l => exact (listB_mem enc a (a :: l) List.mem_cons_self).2
theorem only_nums (S G : List UInt8) (q : ByteArray) (hS : S = G ++ q.data.toList) (hz : S.length ≤ 1000) : ∃ x q' b', rdrL (fun (n : Int) => n) [] (numsR q.data.toList) false = (x, q', b') ∧ (x.length ≤ 1000 ∧ ∀ y ∈ x, InR y) ∧ (listB intB x).length ≤ 1000 ∧ Case S G (listB intB x) q' b' := by
  rcases only_gen numsR (listB intB) [] (fun xs => ∀ y ∈ xs, InR y) (fun l x r h => listB_listR intB intR InR intB_intR _ l x r h) (by decide) (fun y h => by cases h) S G q hS with ⟨x, r, h, hP, hl, hC⟩ | ⟨h, hP, hC⟩
  · have := listB_len intB x
    exact ⟨x, mkB r, false, by rw [h]; simp [rdrL], ⟨by omega, hP⟩, by omega, hC⟩
  · exact ⟨[], mkB [], true, by rw [h]; rfl, ⟨by decide, fun y h => by cases h⟩, by decide, hC⟩
theorem listB_map (l : List (List UInt8)) : listB (fun (s : ByteArray) => textB s.data.toList) (l.map mkB) = listB textB l := by
  induction l with
  | nil => rfl
  | cons x l ih => rw [List.map_cons, listB_cons, listB_cons, ih, mkB_list]
theorem only_texts (S G : List UInt8) (q : ByteArray) (hS : S = G ++ q.data.toList) (hz : S.length ≤ 1000) : ∃ x q' b', rdrL mkB [] (textsR q.data.toList) false = (x, q', b') ∧ (x.length ≤ 1000 ∧ ∀ y ∈ x, y.size ≤ 500000) ∧ (listB (fun (s : ByteArray) => textB s.data.toList) x).length ≤ 1000 ∧ Case S G (listB (fun (s : ByteArray) => textB s.data.toList) x) q' b' := by
  rcases only_gen textsR (listB textB) [] (fun _ => True) (fun l x r h => ⟨(listB_listR textB textR (fun _ => True) (fun l x r h => ⟨textB_textR l x r h, trivial⟩) _ l x r h).1, trivial⟩) (by decide) trivial S G q hS with ⟨x, r, h, hP, hl, hC⟩ | ⟨h, hP, hC⟩
  · have := listB_len textB x
    refine ⟨x.map mkB, mkB r, false, by rw [h]; simp [rdrL], ⟨by rw [List.length_map]; omega, fun y hy => ?_⟩, by rw [listB_map]; omega, by rw [listB_map]; exact hC⟩
    obtain ⟨z, hz', rfl⟩ := List.mem_map.1 hy
    have h1 := (listB_mem textB z x hz').1
    have h2 := len_text z
    rw [mkB_size]; omega
  · exact ⟨[], mkB [], true, by rw [h]; rfl, ⟨by decide, fun y h => by cases h⟩, by decide, hC⟩
/-- A reader that has not failed, and what it has read. -/
structure One (w0 w : World) (g : Nat) (S : List UInt8) (got q : ByteArray) : Prop where
  a : IsS117 w0 w g q false
  below : Below w0.heap.size w0 w
  read : S = got.data.toList ++ q.data.toList
theorem app_list (a b : ByteArray) : (a ++ b).data.toList = a.data.toList ++ b.data.toList := by
  rw [ByteArray.data_append, Array.toList_append]
theorem kept117 {w0 w w' : World} {g : Nat} {s : ByteArray} {b : Bool} (h : IsS117 w0 w g s b) (k : Below w.heap.size w w') : IsS117 w0 w' g s b := h.below k
theorem dead_int : rdr (intR (mkB []).data.toList) (0 : Int) true = (0, mkB [], true) := rfl
theorem dead_num : rdr (numR (mkB []).data.toList) (0 : Int) true = (0, mkB [], true) := rfl
theorem dead_text : rdrS (textR (mkB []).data.toList) true = (⟨#[]⟩, mkB [], true) := rfl
theorem dead_nums : rdrL (fun (n : Int) => n) [] (numsR (mkB []).data.toList) true = ([], mkB [], true) := rfl
theorem dead_texts : rdrL mkB [] (textsR (mkB []).data.toList) true = ([], mkB [], true) := rfl
theorem dead_ok : Okr (mkB []) true := fun _ => rfl
set_option maxHeartbeats 16000000 in
set_option maxRecDepth 100000 in
theorem WireOnly_any (s : ByteArray) (A : Option Addr) (c : Nat) (l : List Int) (w : World) (hM : MaxW w) (hR : Kd.C (Kd.int .u8) w A l.length l) (hc : l.length ≤ c) (hwf : ∀ x ∈ l, 0 ≤ x ∧ x < 256) :
    Calls Tryd.prog 21 #[.string s, .slice A l.length c] w fun e w' => e = .returned (.bool true) ∧ Below w.heap.size w w' := by
  have HM := Lib.hid hM; have HR := Lib.hid hR; have HWF := Lib.hid hwf
  clear hM hR hwf
  by_cases h1 : 1000 < s.size
  · have i1 : (1000 : Int) < (s.size : Int) := by omega
    go_enter Tryd.func21, Tryd.ntmps21
    go_wp2_with fail
    refine (small_any _ HM.out).mono ?_
    rintro e w1 ⟨rfl, b1⟩
    go_wp2
    go_ret
    exact ⟨rfl, b1⟩
  by_cases h2 : 30 < l.length
  · have i1 : ¬ (1000 : Int) < (s.size : Int) := by omega
    have i2 : (30 : Int) < (l.length : Int) := by omega
    go_enter Tryd.func21, Tryd.ntmps21
    go_wp2_with fail
    refine (small_any _ HM.out).mono ?_
    rintro e w1 ⟨rfl, b1⟩
    go_wp2
    go_ret
    exact ⟨rfl, b1⟩
  have i1 : ¬ (1000 : Int) < (s.size : Int) := by omega
  have i2 : ¬ (30 : Int) < (l.length : Int) := by omega
  go_enter Tryd.func21, Tryd.ntmps21
  go_wp2_with fail
  refine (small_any _ HM.out).mono ?_
  rintro e w1 ⟨rfl, b1⟩
  have B1 := Lib.hid b1; clear b1
  go_wp2_with fail
  refine (ROpen_any s w _ B1.out).mono ?_
  rintro e w2 ⟨rfl, s2, b2, _⟩
  have TT0 : Hid (One w w2 w1.heap.size s.data.toList ⟨#[]⟩ s) := Lib.hid ⟨s2, b2, rfl⟩
  obtain ⟨g, hg⟩ : ∃ g, w1.heap.size = g := ⟨_, rfl⟩
  rw [hg] at TT0
  rw [hg]
  clear s2 b2 hg B1
  go_wp2
  go_loopw [7, 8, 9] (fun v7 v8 v9 wr => ∃ (k : Nat) (got q : ByteArray), k ≤ l.length ∧ v7 = .string got ∧ v8 = .int .i64 k ∧ Hid (One w wr g s.data.toList got q)) (fun _ v8 _ _ => l.length - (intOf v8).toNat)
  case atStart => exact ⟨0, ⟨#[]⟩, s, by omega, rfl, rfl, TT0⟩
  case round =>
    obtain ⟨k, got, q, hk, rfl, rfl, TT⟩ := hrel
    by_cases hlt : k < l.length
    · obtain ⟨ad, hA, hcell⟩ := Kd.at_int HR.out (k : Int) (by omega) (by omega)
      subst hA
      have hg : rd l (k : Int) = l[k] := rd_nat k hlt
      rw [hg] at hcell
      have hcell' := (TT.out.below.cell (World.block_lt_of_cell? w _ hcell)).trans hcell
      have hw := HWF.out _ (List.getElem_mem hlt)
      obtain ⟨x0, hx0⟩ : ∃ x, l[k] = x := ⟨_, rfl⟩
      rw [hx0] at hcell' hw
      rw [Int.toNat_natCast] at hcell'
      obtain ⟨w0, w1⟩ := hw
      have hsum : got.size + q.size = s.size := by
        have := congrArg List.length TT.out.read
        rw [List.length_append, len_size, len_size, len_size] at this
        omega
      have hgs : (got.size : Int) ≤ (s.size : Int) := by omega
      clear hcell hg hx0 TT0
      obtain ⟨m, hm⟩ : ∃ m, x0 % 5 = m := ⟨_, rfl⟩
      have hm1 : Int.tmod x0 5 = m := by rw [Int.tmod_eq_emod_of_nonneg w0]; exact hm
      have hm2 : (Int.tmod x0 5) % 256 = m := by rw [hm1]; omega
      have m0 : 0 ≤ m := by omega
      have m5 : m < 5 := by omega
      by_cases k0 : m = 0
      · subst k0
        obtain ⟨x, q', b', hr, hP, hE, hC⟩ := only_num s.data.toList got.data.toList q TT.out.read (by rw [len_size]; omega)
        obtain ⟨R, hRe⟩ : ∃ R, mkB (numB x) = R := ⟨_, rfl⟩
        have hRz : R.size ≤ 1000 := by rw [← hRe, mkB_size]; exact hE
        have hC' : Case s.data.toList got.data.toList R.data.toList q' b' := by rw [← hRe, mkB_list]; exact hC
        have HR' := Lib.hid hr; have HP' := Lib.hid hP; have HRE := Lib.hid hRe; have HC := Lib.hid hC'
        clear hr hP hE hC hC' hRe
        go_wp2_with fail
        refine (RNum_any g q false w _ TT.out.a TT.out.below (by omega)).mono ?_
        rw [HR'.out]
        rintro e w4 ⟨rfl, h4⟩
        have H4 := Lib.hid h4; clear h4
        go_wp2_with fail
        refine (Num_any x _ HP'.out).mono ?_
        rw [HRE.out]
        rintro e w5 ⟨rfl, h5⟩
        have L5 := Lib.hid (Lf.more H4.out _ (Or.inl (Nat.le_refl _)) h5)
        clear h5
        rcases HC.out with ⟨rfl, hS2⟩ | ⟨rfl, rfl, hS2⟩
        · have hlen : s.size = got.size + R.size + q'.size := by
            have := congrArg List.length hS2
            rw [List.length_append, List.length_append, len_size, len_size, len_size, len_size] at this
            exact this
          have hpre : (got ++ R).data.toList <+: s.data.toList := by rw [app_list]; exact ⟨_, hS2.symm⟩
          have HS2 := Lib.hid hS2; have HP := Lib.hid hpre
          clear hS2 hpre
          have j1 : (got.size : Int) + (R.size : Int) ≤ (s.size : Int) := by omega
          have j2 : (q'.size : Int) = (s.size : Int) - ((got.size : Int) + (R.size : Int)) := by omega
          clear hlen hsum
          go_wp2_with fail
          refine (RLeft_any g q' false w _ L5.out.is L5.out.below).mono ?_
          rintro e w6 ⟨rfl, rfl⟩
          go_wp2_with fail
          refine (begins_any s (got ++ R) _).mono ?_
          rw [decide_eq_true HP.out]
          rintro e w6 ⟨rfl, rfl⟩
          go_wp2
          go_roundw
          case rel => exact ⟨k + 1, got ++ R, q', by omega, rfl, by go_num, Lib.hid ⟨L5.out.is, L5.out.below, by rw [app_list]; exact HS2.out⟩⟩
          case measure => simp [intOf]; omega
        · have HS2 := Lib.hid hS2
          clear hS2
          by_cases j1 : got.size + R.size ≤ s.size
          · have j1i : (got.size : Int) + (R.size : Int) ≤ (s.size : Int) := by omega
            by_cases j2 : got.size + R.size = s.size
            · have hnp : ¬ (got ++ R).data.toList <+: s.data.toList := fun hp => HS2.out (by have := List.IsPrefix.eq_of_length hp (by rw [app_list, List.length_append, len_size, len_size, len_size]; exact j2); rw [app_list] at this; exact this.symm)
              have HP := Lib.hid hnp
              clear hnp
              have j2i : (got.size : Int) + (R.size : Int) = (s.size : Int) := by omega
              have j3 : (0 : Int) = (s.size : Int) - ((got.size : Int) + (R.size : Int)) := by omega
              clear j2 j1 j2i hsum
              go_wp2_with fail
              refine (RLeft_any g (mkB []) true w _ L5.out.is L5.out.below).mono ?_
              rw [show (((mkB []).size : Nat) : Int) = 0 from rfl]
              rintro e w6 ⟨rfl, rfl⟩
              go_wp2_with fail
              refine (begins_any s (got ++ R) _).mono ?_
              rw [decide_eq_false HP.out]
              rintro e w6 ⟨rfl, rfl⟩
              have D0 := Lib.hid L5.out
              go_wp2_with fail
              refine (RDone_any g (mkB []) true w _ L5.out.is L5.out.below).mono ?_
              rw [show (!true && ((mkB []).toList == ([] : List UInt8))) = false from rfl]
              rintro e w6 ⟨rfl, rfl⟩
              go_wp2_with fail
              refine (RLeft_any g (mkB []) true w _ L5.out.is L5.out.below).mono ?_
              rw [show (((mkB []).size : Nat) : Int) = 0 from rfl]
              rintro e w6 ⟨rfl, rfl⟩
              go_wp2_with fail
              refine (RInt_any g (mkB []) true w _ L5.out.is L5.out.below (by decide)).mono ?_
              rw [dead_int]
              rintro e w6 ⟨rfl, h6⟩
              have H6 := Lib.hid h6; clear h6
              go_wp2_with fail
              refine (RText_any g (mkB []) true w _ H6.out.is H6.out.below (by decide)).mono ?_
              rw [dead_text]
              rintro e w7 ⟨rfl, h7⟩
              have H7 := Lib.hid h7; clear h7
              go_wp2_with fail
              refine (RNums_any g (mkB []) true dead_ok w _ H7.out.is H7.out.below (by decide)).mono ?_
              rw [dead_nums]
              rintro e w8 ⟨v1, rfl, r1, h8⟩
              have H8 := Lib.hid h8; clear h8
              obtain ⟨A1, c1, rfl, _, _⟩ := Kd.R_reads r1
              clear r1
              go_wp2_with fail
              refine (RTexts_any g (mkB []) true dead_ok w _ H8.out.is H8.out.below (by decide)).mono ?_
              rw [dead_texts]
              rintro e w9 ⟨v2, rfl, r2, h9⟩
              have H9 := Lib.hid h9; clear h9
              obtain ⟨A2, c2, rfl, _, _⟩ := Kd.R_reads r2
              clear r2
              go_wp2_with fail
              refine (RNum_any g (mkB []) true w _ H9.out.is H9.out.below (by decide)).mono ?_
              rw [dead_num]
              rintro e w10 ⟨rfl, h10⟩
              have H10 := Lib.hid h10; clear h10
              go_wp2
              go_ret
              exact ⟨rfl, H10.out.below⟩
            · have j3 : ¬ (0 : Int) = (s.size : Int) - ((got.size : Int) + (R.size : Int)) := by omega
              clear hsum j2 j1
              go_wp2_with fail
              refine (RLeft_any g (mkB []) true w _ L5.out.is L5.out.below).mono ?_
              rw [show (((mkB []).size : Nat) : Int) = 0 from rfl]
              rintro e w6 ⟨rfl, rfl⟩
              have D0 := Lib.hid L5.out
              go_wp2_with fail
              refine (RDone_any g (mkB []) true w _ L5.out.is L5.out.below).mono ?_
              rw [show (!true && ((mkB []).toList == ([] : List UInt8))) = false from rfl]
              rintro e w6 ⟨rfl, rfl⟩
              go_wp2_with fail
              refine (RLeft_any g (mkB []) true w _ L5.out.is L5.out.below).mono ?_
              rw [show (((mkB []).size : Nat) : Int) = 0 from rfl]
              rintro e w6 ⟨rfl, rfl⟩
              go_wp2_with fail
              refine (RInt_any g (mkB []) true w _ L5.out.is L5.out.below (by decide)).mono ?_
              rw [dead_int]
              rintro e w6 ⟨rfl, h6⟩
              have H6 := Lib.hid h6; clear h6
              go_wp2_with fail
              refine (RText_any g (mkB []) true w _ H6.out.is H6.out.below (by decide)).mono ?_
              rw [dead_text]
              rintro e w7 ⟨rfl, h7⟩
              have H7 := Lib.hid h7; clear h7
              go_wp2_with fail
              refine (RNums_any g (mkB []) true dead_ok w _ H7.out.is H7.out.below (by decide)).mono ?_
              rw [dead_nums]
              rintro e w8 ⟨v1, rfl, r1, h8⟩
              have H8 := Lib.hid h8; clear h8
              obtain ⟨A1, c1, rfl, _, _⟩ := Kd.R_reads r1
              clear r1
              go_wp2_with fail
              refine (RTexts_any g (mkB []) true dead_ok w _ H8.out.is H8.out.below (by decide)).mono ?_
              rw [dead_texts]
              rintro e w9 ⟨v2, rfl, r2, h9⟩
              have H9 := Lib.hid h9; clear h9
              obtain ⟨A2, c2, rfl, _, _⟩ := Kd.R_reads r2
              clear r2
              go_wp2_with fail
              refine (RNum_any g (mkB []) true w _ H9.out.is H9.out.below (by decide)).mono ?_
              rw [dead_num]
              rintro e w10 ⟨rfl, h10⟩
              have H10 := Lib.hid h10; clear h10
              go_wp2
              go_ret
              exact ⟨rfl, H10.out.below⟩
          · have j1i : ¬ (got.size : Int) + (R.size : Int) ≤ (s.size : Int) := by omega
            clear hsum
            have D0 := Lib.hid L5.out
            go_wp2_with fail
            refine (RDone_any g (mkB []) true w _ L5.out.is L5.out.below).mono ?_
            rw [show (!true && ((mkB []).toList == ([] : List UInt8))) = false from rfl]
            rintro e w6 ⟨rfl, rfl⟩
            go_wp2_with fail
            refine (RLeft_any g (mkB []) true w _ L5.out.is L5.out.below).mono ?_
            rw [show (((mkB []).size : Nat) : Int) = 0 from rfl]
            rintro e w6 ⟨rfl, rfl⟩
            go_wp2_with fail
            refine (RInt_any g (mkB []) true w _ L5.out.is L5.out.below (by decide)).mono ?_
            rw [dead_int]
            rintro e w6 ⟨rfl, h6⟩
            have H6 := Lib.hid h6; clear h6
            go_wp2_with fail
            refine (RText_any g (mkB []) true w _ H6.out.is H6.out.below (by decide)).mono ?_
            rw [dead_text]
            rintro e w7 ⟨rfl, h7⟩
            have H7 := Lib.hid h7; clear h7
            go_wp2_with fail
            refine (RNums_any g (mkB []) true dead_ok w _ H7.out.is H7.out.below (by decide)).mono ?_
            rw [dead_nums]
            rintro e w8 ⟨v1, rfl, r1, h8⟩
            have H8 := Lib.hid h8; clear h8
            obtain ⟨A1, c1, rfl, _, _⟩ := Kd.R_reads r1
            clear r1
            go_wp2_with fail
            refine (RTexts_any g (mkB []) true dead_ok w _ H8.out.is H8.out.below (by decide)).mono ?_
            rw [dead_texts]
            rintro e w9 ⟨v2, rfl, r2, h9⟩
            have H9 := Lib.hid h9; clear h9
            obtain ⟨A2, c2, rfl, _, _⟩ := Kd.R_reads r2
            clear r2
            go_wp2_with fail
            refine (RNum_any g (mkB []) true w _ H9.out.is H9.out.below (by decide)).mono ?_
            rw [dead_num]
            rintro e w10 ⟨rfl, h10⟩
            have H10 := Lib.hid h10; clear h10
            go_wp2
            go_ret
            exact ⟨rfl, H10.out.below⟩
      by_cases k1 : m = 1
      · subst k1
        obtain ⟨x, q', b', hr, hP, hE, hC⟩ := only_int s.data.toList got.data.toList q TT.out.read (by rw [len_size]; omega)
        obtain ⟨R, hRe⟩ : ∃ R, mkB (intB x) = R := ⟨_, rfl⟩
        have hRz : R.size ≤ 1000 := by rw [← hRe, mkB_size]; exact hE
        have hC' : Case s.data.toList got.data.toList R.data.toList q' b' := by rw [← hRe, mkB_list]; exact hC
        have HR' := Lib.hid hr; have HP' := Lib.hid hP; have HRE := Lib.hid hRe; have HC := Lib.hid hC'
        clear hr hP hE hC hC' hRe
        go_wp2_with fail
        refine (RInt_any g q false w _ TT.out.a TT.out.below (by omega)).mono ?_
        rw [HR'.out]
        rintro e w4 ⟨rfl, h4⟩
        have H4 := Lib.hid h4; clear h4
        go_wp2_with fail
        refine (Int_any x _ HP'.out).mono ?_
        rw [HRE.out]
        rintro e w5 ⟨rfl, h5⟩
        have L5 := Lib.hid (Lf.more H4.out _ (Or.inl (Nat.le_refl _)) h5)
        clear h5
        rcases HC.out with ⟨rfl, hS2⟩ | ⟨rfl, rfl, hS2⟩
        · have hlen : s.size = got.size + R.size + q'.size := by
            have := congrArg List.length hS2
            rw [List.length_append, List.length_append, len_size, len_size, len_size, len_size] at this
            exact this
          have hpre : (got ++ R).data.toList <+: s.data.toList := by rw [app_list]; exact ⟨_, hS2.symm⟩
          have HS2 := Lib.hid hS2; have HP := Lib.hid hpre
          clear hS2 hpre
          have j1 : (got.size : Int) + (R.size : Int) ≤ (s.size : Int) := by omega
          have j2 : (q'.size : Int) = (s.size : Int) - ((got.size : Int) + (R.size : Int)) := by omega
          clear hlen hsum
          go_wp2_with fail
          refine (RLeft_any g q' false w _ L5.out.is L5.out.below).mono ?_
          rintro e w6 ⟨rfl, rfl⟩
          go_wp2_with fail
          refine (begins_any s (got ++ R) _).mono ?_
          rw [decide_eq_true HP.out]
          rintro e w6 ⟨rfl, rfl⟩
          go_wp2
          go_roundw
          case rel => exact ⟨k + 1, got ++ R, q', by omega, rfl, by go_num, Lib.hid ⟨L5.out.is, L5.out.below, by rw [app_list]; exact HS2.out⟩⟩
          case measure => simp [intOf]; omega
        · have HS2 := Lib.hid hS2
          clear hS2
          by_cases j1 : got.size + R.size ≤ s.size
          · have j1i : (got.size : Int) + (R.size : Int) ≤ (s.size : Int) := by omega
            by_cases j2 : got.size + R.size = s.size
            · have hnp : ¬ (got ++ R).data.toList <+: s.data.toList := fun hp => HS2.out (by have := List.IsPrefix.eq_of_length hp (by rw [app_list, List.length_append, len_size, len_size, len_size]; exact j2); rw [app_list] at this; exact this.symm)
              have HP := Lib.hid hnp
              clear hnp
              have j2i : (got.size : Int) + (R.size : Int) = (s.size : Int) := by omega
              have j3 : (0 : Int) = (s.size : Int) - ((got.size : Int) + (R.size : Int)) := by omega
              clear j2 j1 j2i hsum
              go_wp2_with fail
              refine (RLeft_any g (mkB []) true w _ L5.out.is L5.out.below).mono ?_
              rw [show (((mkB []).size : Nat) : Int) = 0 from rfl]
              rintro e w6 ⟨rfl, rfl⟩
              go_wp2_with fail
              refine (begins_any s (got ++ R) _).mono ?_
              rw [decide_eq_false HP.out]
              rintro e w6 ⟨rfl, rfl⟩
              have D0 := Lib.hid L5.out
              go_wp2_with fail
              refine (RDone_any g (mkB []) true w _ L5.out.is L5.out.below).mono ?_
              rw [show (!true && ((mkB []).toList == ([] : List UInt8))) = false from rfl]
              rintro e w6 ⟨rfl, rfl⟩
              go_wp2_with fail
              refine (RLeft_any g (mkB []) true w _ L5.out.is L5.out.below).mono ?_
              rw [show (((mkB []).size : Nat) : Int) = 0 from rfl]
              rintro e w6 ⟨rfl, rfl⟩
              go_wp2_with fail
              refine (RInt_any g (mkB []) true w _ L5.out.is L5.out.below (by decide)).mono ?_
              rw [dead_int]
              rintro e w6 ⟨rfl, h6⟩
              have H6 := Lib.hid h6; clear h6
              go_wp2_with fail
              refine (RText_any g (mkB []) true w _ H6.out.is H6.out.below (by decide)).mono ?_
              rw [dead_text]
              rintro e w7 ⟨rfl, h7⟩
              have H7 := Lib.hid h7; clear h7
              go_wp2_with fail
              refine (RNums_any g (mkB []) true dead_ok w _ H7.out.is H7.out.below (by decide)).mono ?_
              rw [dead_nums]
              rintro e w8 ⟨v1, rfl, r1, h8⟩
              have H8 := Lib.hid h8; clear h8
              obtain ⟨A1, c1, rfl, _, _⟩ := Kd.R_reads r1
              clear r1
              go_wp2_with fail
              refine (RTexts_any g (mkB []) true dead_ok w _ H8.out.is H8.out.below (by decide)).mono ?_
              rw [dead_texts]
              rintro e w9 ⟨v2, rfl, r2, h9⟩
              have H9 := Lib.hid h9; clear h9
              obtain ⟨A2, c2, rfl, _, _⟩ := Kd.R_reads r2
              clear r2
              go_wp2_with fail
              refine (RNum_any g (mkB []) true w _ H9.out.is H9.out.below (by decide)).mono ?_
              rw [dead_num]
              rintro e w10 ⟨rfl, h10⟩
              have H10 := Lib.hid h10; clear h10
              go_wp2
              go_ret
              exact ⟨rfl, H10.out.below⟩
            · have j3 : ¬ (0 : Int) = (s.size : Int) - ((got.size : Int) + (R.size : Int)) := by omega
              clear hsum j2 j1
              go_wp2_with fail
              refine (RLeft_any g (mkB []) true w _ L5.out.is L5.out.below).mono ?_
              rw [show (((mkB []).size : Nat) : Int) = 0 from rfl]
              rintro e w6 ⟨rfl, rfl⟩
              have D0 := Lib.hid L5.out
              go_wp2_with fail
              refine (RDone_any g (mkB []) true w _ L5.out.is L5.out.below).mono ?_
              rw [show (!true && ((mkB []).toList == ([] : List UInt8))) = false from rfl]
              rintro e w6 ⟨rfl, rfl⟩
              go_wp2_with fail
              refine (RLeft_any g (mkB []) true w _ L5.out.is L5.out.below).mono ?_
              rw [show (((mkB []).size : Nat) : Int) = 0 from rfl]
              rintro e w6 ⟨rfl, rfl⟩
              go_wp2_with fail
              refine (RInt_any g (mkB []) true w _ L5.out.is L5.out.below (by decide)).mono ?_
              rw [dead_int]
              rintro e w6 ⟨rfl, h6⟩
              have H6 := Lib.hid h6; clear h6
              go_wp2_with fail
              refine (RText_any g (mkB []) true w _ H6.out.is H6.out.below (by decide)).mono ?_
              rw [dead_text]
              rintro e w7 ⟨rfl, h7⟩
              have H7 := Lib.hid h7; clear h7
              go_wp2_with fail
              refine (RNums_any g (mkB []) true dead_ok w _ H7.out.is H7.out.below (by decide)).mono ?_
              rw [dead_nums]
              rintro e w8 ⟨v1, rfl, r1, h8⟩
              have H8 := Lib.hid h8; clear h8
              obtain ⟨A1, c1, rfl, _, _⟩ := Kd.R_reads r1
              clear r1
              go_wp2_with fail
              refine (RTexts_any g (mkB []) true dead_ok w _ H8.out.is H8.out.below (by decide)).mono ?_
              rw [dead_texts]
              rintro e w9 ⟨v2, rfl, r2, h9⟩
              have H9 := Lib.hid h9; clear h9
              obtain ⟨A2, c2, rfl, _, _⟩ := Kd.R_reads r2
              clear r2
              go_wp2_with fail
              refine (RNum_any g (mkB []) true w _ H9.out.is H9.out.below (by decide)).mono ?_
              rw [dead_num]
              rintro e w10 ⟨rfl, h10⟩
              have H10 := Lib.hid h10; clear h10
              go_wp2
              go_ret
              exact ⟨rfl, H10.out.below⟩
          · have j1i : ¬ (got.size : Int) + (R.size : Int) ≤ (s.size : Int) := by omega
            clear hsum
            have D0 := Lib.hid L5.out
            go_wp2_with fail
            refine (RDone_any g (mkB []) true w _ L5.out.is L5.out.below).mono ?_
            rw [show (!true && ((mkB []).toList == ([] : List UInt8))) = false from rfl]
            rintro e w6 ⟨rfl, rfl⟩
            go_wp2_with fail
            refine (RLeft_any g (mkB []) true w _ L5.out.is L5.out.below).mono ?_
            rw [show (((mkB []).size : Nat) : Int) = 0 from rfl]
            rintro e w6 ⟨rfl, rfl⟩
            go_wp2_with fail
            refine (RInt_any g (mkB []) true w _ L5.out.is L5.out.below (by decide)).mono ?_
            rw [dead_int]
            rintro e w6 ⟨rfl, h6⟩
            have H6 := Lib.hid h6; clear h6
            go_wp2_with fail
            refine (RText_any g (mkB []) true w _ H6.out.is H6.out.below (by decide)).mono ?_
            rw [dead_text]
            rintro e w7 ⟨rfl, h7⟩
            have H7 := Lib.hid h7; clear h7
            go_wp2_with fail
            refine (RNums_any g (mkB []) true dead_ok w _ H7.out.is H7.out.below (by decide)).mono ?_
            rw [dead_nums]
            rintro e w8 ⟨v1, rfl, r1, h8⟩
            have H8 := Lib.hid h8; clear h8
            obtain ⟨A1, c1, rfl, _, _⟩ := Kd.R_reads r1
            clear r1
            go_wp2_with fail
            refine (RTexts_any g (mkB []) true dead_ok w _ H8.out.is H8.out.below (by decide)).mono ?_
            rw [dead_texts]
            rintro e w9 ⟨v2, rfl, r2, h9⟩
            have H9 := Lib.hid h9; clear h9
            obtain ⟨A2, c2, rfl, _, _⟩ := Kd.R_reads r2
            clear r2
            go_wp2_with fail
            refine (RNum_any g (mkB []) true w _ H9.out.is H9.out.below (by decide)).mono ?_
            rw [dead_num]
            rintro e w10 ⟨rfl, h10⟩
            have H10 := Lib.hid h10; clear h10
            go_wp2
            go_ret
            exact ⟨rfl, H10.out.below⟩
      by_cases k2 : m = 2
      · subst k2
        obtain ⟨x, q', b', hr, hP, hE, hC⟩ := only_text s.data.toList got.data.toList q TT.out.read (by rw [len_size]; omega)
        obtain ⟨R, hRe⟩ : ∃ R, mkB (textB x.data.toList) = R := ⟨_, rfl⟩
        have hRz : R.size ≤ 1000 := by rw [← hRe, mkB_size]; exact hE
        have hC' : Case s.data.toList got.data.toList R.data.toList q' b' := by rw [← hRe, mkB_list]; exact hC
        have HR' := Lib.hid hr; have HP' := Lib.hid hP; have HRE := Lib.hid hRe; have HC := Lib.hid hC'
        clear hr hP hE hC hC' hRe
        go_wp2_with fail
        refine (RText_any g q false w _ TT.out.a TT.out.below (by omega)).mono ?_
        rw [HR'.out]
        rintro e w4 ⟨rfl, h4⟩
        have H4 := Lib.hid h4; clear h4
        go_wp2_with fail
        refine (Text_any x _ (HM.out.below H4.out.below) (by have := HP'.out; omega)).mono ?_
        rw [HRE.out]
        rintro e w5 ⟨rfl, h5⟩
        have L5 := Lib.hid (Lf.more H4.out _ (Or.inl (Nat.le_refl _)) h5)
        clear h5
        rcases HC.out with ⟨rfl, hS2⟩ | ⟨rfl, rfl, hS2⟩
        · have hlen : s.size = got.size + R.size + q'.size := by
            have := congrArg List.length hS2
            rw [List.length_append, List.length_append, len_size, len_size, len_size, len_size] at this
            exact this
          have hpre : (got ++ R).data.toList <+: s.data.toList := by rw [app_list]; exact ⟨_, hS2.symm⟩
          have HS2 := Lib.hid hS2; have HP := Lib.hid hpre
          clear hS2 hpre
          have j1 : (got.size : Int) + (R.size : Int) ≤ (s.size : Int) := by omega
          have j2 : (q'.size : Int) = (s.size : Int) - ((got.size : Int) + (R.size : Int)) := by omega
          clear hlen hsum
          go_wp2_with fail
          refine (RLeft_any g q' false w _ L5.out.is L5.out.below).mono ?_
          rintro e w6 ⟨rfl, rfl⟩
          go_wp2_with fail
          refine (begins_any s (got ++ R) _).mono ?_
          rw [decide_eq_true HP.out]
          rintro e w6 ⟨rfl, rfl⟩
          go_wp2
          go_roundw
          case rel => exact ⟨k + 1, got ++ R, q', by omega, rfl, by go_num, Lib.hid ⟨L5.out.is, L5.out.below, by rw [app_list]; exact HS2.out⟩⟩
          case measure => simp [intOf]; omega
        · have HS2 := Lib.hid hS2
          clear hS2
          by_cases j1 : got.size + R.size ≤ s.size
          · have j1i : (got.size : Int) + (R.size : Int) ≤ (s.size : Int) := by omega
            by_cases j2 : got.size + R.size = s.size
            · have hnp : ¬ (got ++ R).data.toList <+: s.data.toList := fun hp => HS2.out (by have := List.IsPrefix.eq_of_length hp (by rw [app_list, List.length_append, len_size, len_size, len_size]; exact j2); rw [app_list] at this; exact this.symm)
              have HP := Lib.hid hnp
              clear hnp
              have j2i : (got.size : Int) + (R.size : Int) = (s.size : Int) := by omega
              have j3 : (0 : Int) = (s.size : Int) - ((got.size : Int) + (R.size : Int)) := by omega
              clear j2 j1 j2i hsum
              go_wp2_with fail
              refine (RLeft_any g (mkB []) true w _ L5.out.is L5.out.below).mono ?_
              rw [show (((mkB []).size : Nat) : Int) = 0 from rfl]
              rintro e w6 ⟨rfl, rfl⟩
              go_wp2_with fail
              refine (begins_any s (got ++ R) _).mono ?_
              rw [decide_eq_false HP.out]
              rintro e w6 ⟨rfl, rfl⟩
              have D0 := Lib.hid L5.out
              go_wp2_with fail
              refine (RDone_any g (mkB []) true w _ L5.out.is L5.out.below).mono ?_
              rw [show (!true && ((mkB []).toList == ([] : List UInt8))) = false from rfl]
              rintro e w6 ⟨rfl, rfl⟩
              go_wp2_with fail
              refine (RLeft_any g (mkB []) true w _ L5.out.is L5.out.below).mono ?_
              rw [show (((mkB []).size : Nat) : Int) = 0 from rfl]
              rintro e w6 ⟨rfl, rfl⟩
              go_wp2_with fail
              refine (RInt_any g (mkB []) true w _ L5.out.is L5.out.below (by decide)).mono ?_
              rw [dead_int]
              rintro e w6 ⟨rfl, h6⟩
              have H6 := Lib.hid h6; clear h6
              go_wp2_with fail
              refine (RText_any g (mkB []) true w _ H6.out.is H6.out.below (by decide)).mono ?_
              rw [dead_text]
              rintro e w7 ⟨rfl, h7⟩
              have H7 := Lib.hid h7; clear h7
              go_wp2_with fail
              refine (RNums_any g (mkB []) true dead_ok w _ H7.out.is H7.out.below (by decide)).mono ?_
              rw [dead_nums]
              rintro e w8 ⟨v1, rfl, r1, h8⟩
              have H8 := Lib.hid h8; clear h8
              obtain ⟨A1, c1, rfl, _, _⟩ := Kd.R_reads r1
              clear r1
              go_wp2_with fail
              refine (RTexts_any g (mkB []) true dead_ok w _ H8.out.is H8.out.below (by decide)).mono ?_
              rw [dead_texts]
              rintro e w9 ⟨v2, rfl, r2, h9⟩
              have H9 := Lib.hid h9; clear h9
              obtain ⟨A2, c2, rfl, _, _⟩ := Kd.R_reads r2
              clear r2
              go_wp2_with fail
              refine (RNum_any g (mkB []) true w _ H9.out.is H9.out.below (by decide)).mono ?_
              rw [dead_num]
              rintro e w10 ⟨rfl, h10⟩
              have H10 := Lib.hid h10; clear h10
              go_wp2
              go_ret
              exact ⟨rfl, H10.out.below⟩
            · have j3 : ¬ (0 : Int) = (s.size : Int) - ((got.size : Int) + (R.size : Int)) := by omega
              clear hsum j2 j1
              go_wp2_with fail
              refine (RLeft_any g (mkB []) true w _ L5.out.is L5.out.below).mono ?_
              rw [show (((mkB []).size : Nat) : Int) = 0 from rfl]
              rintro e w6 ⟨rfl, rfl⟩
              have D0 := Lib.hid L5.out
              go_wp2_with fail
              refine (RDone_any g (mkB []) true w _ L5.out.is L5.out.below).mono ?_
              rw [show (!true && ((mkB []).toList == ([] : List UInt8))) = false from rfl]
              rintro e w6 ⟨rfl, rfl⟩
              go_wp2_with fail
              refine (RLeft_any g (mkB []) true w _ L5.out.is L5.out.below).mono ?_
              rw [show (((mkB []).size : Nat) : Int) = 0 from rfl]
              rintro e w6 ⟨rfl, rfl⟩
              go_wp2_with fail
              refine (RInt_any g (mkB []) true w _ L5.out.is L5.out.below (by decide)).mono ?_
              rw [dead_int]
              rintro e w6 ⟨rfl, h6⟩
              have H6 := Lib.hid h6; clear h6
              go_wp2_with fail
              refine (RText_any g (mkB []) true w _ H6.out.is H6.out.below (by decide)).mono ?_
              rw [dead_text]
              rintro e w7 ⟨rfl, h7⟩
              have H7 := Lib.hid h7; clear h7
              go_wp2_with fail
              refine (RNums_any g (mkB []) true dead_ok w _ H7.out.is H7.out.below (by decide)).mono ?_
              rw [dead_nums]
              rintro e w8 ⟨v1, rfl, r1, h8⟩
              have H8 := Lib.hid h8; clear h8
              obtain ⟨A1, c1, rfl, _, _⟩ := Kd.R_reads r1
              clear r1
              go_wp2_with fail
              refine (RTexts_any g (mkB []) true dead_ok w _ H8.out.is H8.out.below (by decide)).mono ?_
              rw [dead_texts]
              rintro e w9 ⟨v2, rfl, r2, h9⟩
              have H9 := Lib.hid h9; clear h9
              obtain ⟨A2, c2, rfl, _, _⟩ := Kd.R_reads r2
              clear r2
              go_wp2_with fail
              refine (RNum_any g (mkB []) true w _ H9.out.is H9.out.below (by decide)).mono ?_
              rw [dead_num]
              rintro e w10 ⟨rfl, h10⟩
              have H10 := Lib.hid h10; clear h10
              go_wp2
              go_ret
              exact ⟨rfl, H10.out.below⟩
          · have j1i : ¬ (got.size : Int) + (R.size : Int) ≤ (s.size : Int) := by omega
            clear hsum
            have D0 := Lib.hid L5.out
            go_wp2_with fail
            refine (RDone_any g (mkB []) true w _ L5.out.is L5.out.below).mono ?_
            rw [show (!true && ((mkB []).toList == ([] : List UInt8))) = false from rfl]
            rintro e w6 ⟨rfl, rfl⟩
            go_wp2_with fail
            refine (RLeft_any g (mkB []) true w _ L5.out.is L5.out.below).mono ?_
            rw [show (((mkB []).size : Nat) : Int) = 0 from rfl]
            rintro e w6 ⟨rfl, rfl⟩
            go_wp2_with fail
            refine (RInt_any g (mkB []) true w _ L5.out.is L5.out.below (by decide)).mono ?_
            rw [dead_int]
            rintro e w6 ⟨rfl, h6⟩
            have H6 := Lib.hid h6; clear h6
            go_wp2_with fail
            refine (RText_any g (mkB []) true w _ H6.out.is H6.out.below (by decide)).mono ?_
            rw [dead_text]
            rintro e w7 ⟨rfl, h7⟩
            have H7 := Lib.hid h7; clear h7
            go_wp2_with fail
            refine (RNums_any g (mkB []) true dead_ok w _ H7.out.is H7.out.below (by decide)).mono ?_
            rw [dead_nums]
            rintro e w8 ⟨v1, rfl, r1, h8⟩
            have H8 := Lib.hid h8; clear h8
            obtain ⟨A1, c1, rfl, _, _⟩ := Kd.R_reads r1
            clear r1
            go_wp2_with fail
            refine (RTexts_any g (mkB []) true dead_ok w _ H8.out.is H8.out.below (by decide)).mono ?_
            rw [dead_texts]
            rintro e w9 ⟨v2, rfl, r2, h9⟩
            have H9 := Lib.hid h9; clear h9
            obtain ⟨A2, c2, rfl, _, _⟩ := Kd.R_reads r2
            clear r2
            go_wp2_with fail
            refine (RNum_any g (mkB []) true w _ H9.out.is H9.out.below (by decide)).mono ?_
            rw [dead_num]
            rintro e w10 ⟨rfl, h10⟩
            have H10 := Lib.hid h10; clear h10
            go_wp2
            go_ret
            exact ⟨rfl, H10.out.below⟩
      by_cases k3 : m = 3
      · subst k3
        obtain ⟨x, q', b', hr, hP, hE, hC⟩ := only_nums s.data.toList got.data.toList q TT.out.read (by rw [len_size]; omega)
        obtain ⟨R, hRe⟩ : ∃ R, mkB (listB intB x) = R := ⟨_, rfl⟩
        have hRz : R.size ≤ 1000 := by rw [← hRe, mkB_size]; exact hE
        have hC' : Case s.data.toList got.data.toList R.data.toList q' b' := by rw [← hRe, mkB_list]; exact hC
        have HR' := Lib.hid hr; have HP' := Lib.hid hP; have HRE := Lib.hid hRe; have HC := Lib.hid hC'
        clear hr hP hE hC hC' hRe
        go_wp2_with fail
        refine (RNums_any g q false (fun h => by cases h) w _ TT.out.a TT.out.below (by omega)).mono ?_
        rw [HR'.out]
        rintro e w4 ⟨v1, rfl, r1, h4⟩
        have H4 := Lib.hid h4; clear h4
        obtain ⟨A1, c1, rfl, hc1, hC1⟩ := Kd.R_reads r1
        have HC1 := Lib.hid hC1
        clear r1 hC1
        go_wp2_with fail
        refine (Nums_any A1 c1 x _ HC1.out hc1 HP'.out.1 HP'.out.2).mono ?_
        rw [HRE.out]
        rintro e w5 ⟨rfl, h5⟩
        have L5 := Lib.hid (Lf.more H4.out _ (Or.inl (Nat.le_refl _)) h5)
        clear h5
        rcases HC.out with ⟨rfl, hS2⟩ | ⟨rfl, rfl, hS2⟩
        · have hlen : s.size = got.size + R.size + q'.size := by
            have := congrArg List.length hS2
            rw [List.length_append, List.length_append, len_size, len_size, len_size, len_size] at this
            exact this
          have hpre : (got ++ R).data.toList <+: s.data.toList := by rw [app_list]; exact ⟨_, hS2.symm⟩
          have HS2 := Lib.hid hS2; have HP := Lib.hid hpre
          clear hS2 hpre
          have j1 : (got.size : Int) + (R.size : Int) ≤ (s.size : Int) := by omega
          have j2 : (q'.size : Int) = (s.size : Int) - ((got.size : Int) + (R.size : Int)) := by omega
          clear hlen hsum
          go_wp2_with fail
          refine (RLeft_any g q' false w _ L5.out.is L5.out.below).mono ?_
          rintro e w6 ⟨rfl, rfl⟩
          go_wp2_with fail
          refine (begins_any s (got ++ R) _).mono ?_
          rw [decide_eq_true HP.out]
          rintro e w6 ⟨rfl, rfl⟩
          go_wp2
          go_roundw
          case rel => exact ⟨k + 1, got ++ R, q', by omega, rfl, by go_num, Lib.hid ⟨L5.out.is, L5.out.below, by rw [app_list]; exact HS2.out⟩⟩
          case measure => simp [intOf]; omega
        · have HS2 := Lib.hid hS2
          clear hS2
          by_cases j1 : got.size + R.size ≤ s.size
          · have j1i : (got.size : Int) + (R.size : Int) ≤ (s.size : Int) := by omega
            by_cases j2 : got.size + R.size = s.size
            · have hnp : ¬ (got ++ R).data.toList <+: s.data.toList := fun hp => HS2.out (by have := List.IsPrefix.eq_of_length hp (by rw [app_list, List.length_append, len_size, len_size, len_size]; exact j2); rw [app_list] at this; exact this.symm)
              have HP := Lib.hid hnp
              clear hnp
              have j2i : (got.size : Int) + (R.size : Int) = (s.size : Int) := by omega
              have j3 : (0 : Int) = (s.size : Int) - ((got.size : Int) + (R.size : Int)) := by omega
              clear j2 j1 j2i hsum
              go_wp2_with fail
              refine (RLeft_any g (mkB []) true w _ L5.out.is L5.out.below).mono ?_
              rw [show (((mkB []).size : Nat) : Int) = 0 from rfl]
              rintro e w6 ⟨rfl, rfl⟩
              go_wp2_with fail
              refine (begins_any s (got ++ R) _).mono ?_
              rw [decide_eq_false HP.out]
              rintro e w6 ⟨rfl, rfl⟩
              have D0 := Lib.hid L5.out
              go_wp2_with fail
              refine (RDone_any g (mkB []) true w _ L5.out.is L5.out.below).mono ?_
              rw [show (!true && ((mkB []).toList == ([] : List UInt8))) = false from rfl]
              rintro e w6 ⟨rfl, rfl⟩
              go_wp2_with fail
              refine (RLeft_any g (mkB []) true w _ L5.out.is L5.out.below).mono ?_
              rw [show (((mkB []).size : Nat) : Int) = 0 from rfl]
              rintro e w6 ⟨rfl, rfl⟩
              go_wp2_with fail
              refine (RInt_any g (mkB []) true w _ L5.out.is L5.out.below (by decide)).mono ?_
              rw [dead_int]
              rintro e w6 ⟨rfl, h6⟩
              have H6 := Lib.hid h6; clear h6
              go_wp2_with fail
              refine (RText_any g (mkB []) true w _ H6.out.is H6.out.below (by decide)).mono ?_
              rw [dead_text]
              rintro e w7 ⟨rfl, h7⟩
              have H7 := Lib.hid h7; clear h7
              go_wp2_with fail
              refine (RNums_any g (mkB []) true dead_ok w _ H7.out.is H7.out.below (by decide)).mono ?_
              rw [dead_nums]
              rintro e w8 ⟨v1, rfl, r1, h8⟩
              have H8 := Lib.hid h8; clear h8
              obtain ⟨A1, c1, rfl, _, _⟩ := Kd.R_reads r1
              clear r1
              go_wp2_with fail
              refine (RTexts_any g (mkB []) true dead_ok w _ H8.out.is H8.out.below (by decide)).mono ?_
              rw [dead_texts]
              rintro e w9 ⟨v2, rfl, r2, h9⟩
              have H9 := Lib.hid h9; clear h9
              obtain ⟨A2, c2, rfl, _, _⟩ := Kd.R_reads r2
              clear r2
              go_wp2_with fail
              refine (RNum_any g (mkB []) true w _ H9.out.is H9.out.below (by decide)).mono ?_
              rw [dead_num]
              rintro e w10 ⟨rfl, h10⟩
              have H10 := Lib.hid h10; clear h10
              go_wp2
              go_ret
              exact ⟨rfl, H10.out.below⟩
            · have j3 : ¬ (0 : Int) = (s.size : Int) - ((got.size : Int) + (R.size : Int)) := by omega
              clear hsum j2 j1
              go_wp2_with fail
              refine (RLeft_any g (mkB []) true w _ L5.out.is L5.out.below).mono ?_
              rw [show (((mkB []).size : Nat) : Int) = 0 from rfl]
              rintro e w6 ⟨rfl, rfl⟩
              have D0 := Lib.hid L5.out
              go_wp2_with fail
              refine (RDone_any g (mkB []) true w _ L5.out.is L5.out.below).mono ?_
              rw [show (!true && ((mkB []).toList == ([] : List UInt8))) = false from rfl]
              rintro e w6 ⟨rfl, rfl⟩
              go_wp2_with fail
              refine (RLeft_any g (mkB []) true w _ L5.out.is L5.out.below).mono ?_
              rw [show (((mkB []).size : Nat) : Int) = 0 from rfl]
              rintro e w6 ⟨rfl, rfl⟩
              go_wp2_with fail
              refine (RInt_any g (mkB []) true w _ L5.out.is L5.out.below (by decide)).mono ?_
              rw [dead_int]
              rintro e w6 ⟨rfl, h6⟩
              have H6 := Lib.hid h6; clear h6
              go_wp2_with fail
              refine (RText_any g (mkB []) true w _ H6.out.is H6.out.below (by decide)).mono ?_
              rw [dead_text]
              rintro e w7 ⟨rfl, h7⟩
              have H7 := Lib.hid h7; clear h7
              go_wp2_with fail
              refine (RNums_any g (mkB []) true dead_ok w _ H7.out.is H7.out.below (by decide)).mono ?_
              rw [dead_nums]
              rintro e w8 ⟨v1, rfl, r1, h8⟩
              have H8 := Lib.hid h8; clear h8
              obtain ⟨A1, c1, rfl, _, _⟩ := Kd.R_reads r1
              clear r1
              go_wp2_with fail
              refine (RTexts_any g (mkB []) true dead_ok w _ H8.out.is H8.out.below (by decide)).mono ?_
              rw [dead_texts]
              rintro e w9 ⟨v2, rfl, r2, h9⟩
              have H9 := Lib.hid h9; clear h9
              obtain ⟨A2, c2, rfl, _, _⟩ := Kd.R_reads r2
              clear r2
              go_wp2_with fail
              refine (RNum_any g (mkB []) true w _ H9.out.is H9.out.below (by decide)).mono ?_
              rw [dead_num]
              rintro e w10 ⟨rfl, h10⟩
              have H10 := Lib.hid h10; clear h10
              go_wp2
              go_ret
              exact ⟨rfl, H10.out.below⟩
          · have j1i : ¬ (got.size : Int) + (R.size : Int) ≤ (s.size : Int) := by omega
            clear hsum
            have D0 := Lib.hid L5.out
            go_wp2_with fail
            refine (RDone_any g (mkB []) true w _ L5.out.is L5.out.below).mono ?_
            rw [show (!true && ((mkB []).toList == ([] : List UInt8))) = false from rfl]
            rintro e w6 ⟨rfl, rfl⟩
            go_wp2_with fail
            refine (RLeft_any g (mkB []) true w _ L5.out.is L5.out.below).mono ?_
            rw [show (((mkB []).size : Nat) : Int) = 0 from rfl]
            rintro e w6 ⟨rfl, rfl⟩
            go_wp2_with fail
            refine (RInt_any g (mkB []) true w _ L5.out.is L5.out.below (by decide)).mono ?_
            rw [dead_int]
            rintro e w6 ⟨rfl, h6⟩
            have H6 := Lib.hid h6; clear h6
            go_wp2_with fail
            refine (RText_any g (mkB []) true w _ H6.out.is H6.out.below (by decide)).mono ?_
            rw [dead_text]
            rintro e w7 ⟨rfl, h7⟩
            have H7 := Lib.hid h7; clear h7
            go_wp2_with fail
            refine (RNums_any g (mkB []) true dead_ok w _ H7.out.is H7.out.below (by decide)).mono ?_
            rw [dead_nums]
            rintro e w8 ⟨v1, rfl, r1, h8⟩
            have H8 := Lib.hid h8; clear h8
            obtain ⟨A1, c1, rfl, _, _⟩ := Kd.R_reads r1
            clear r1
            go_wp2_with fail
            refine (RTexts_any g (mkB []) true dead_ok w _ H8.out.is H8.out.below (by decide)).mono ?_
            rw [dead_texts]
            rintro e w9 ⟨v2, rfl, r2, h9⟩
            have H9 := Lib.hid h9; clear h9
            obtain ⟨A2, c2, rfl, _, _⟩ := Kd.R_reads r2
            clear r2
            go_wp2_with fail
            refine (RNum_any g (mkB []) true w _ H9.out.is H9.out.below (by decide)).mono ?_
            rw [dead_num]
            rintro e w10 ⟨rfl, h10⟩
            have H10 := Lib.hid h10; clear h10
            go_wp2
            go_ret
            exact ⟨rfl, H10.out.below⟩
      obtain ⟨x, q', b', hr, hP, hE, hC⟩ := only_texts s.data.toList got.data.toList q TT.out.read (by rw [len_size]; omega)
      obtain ⟨R, hRe⟩ : ∃ R, mkB (listB (fun (s : ByteArray) => textB s.data.toList) x) = R := ⟨_, rfl⟩
      have hRz : R.size ≤ 1000 := by rw [← hRe, mkB_size]; exact hE
      have hC' : Case s.data.toList got.data.toList R.data.toList q' b' := by rw [← hRe, mkB_list]; exact hC
      have HR' := Lib.hid hr; have HP' := Lib.hid hP; have HRE := Lib.hid hRe; have HC := Lib.hid hC'
      clear hr hP hE hC hC' hRe
      go_wp2_with fail
      refine (RTexts_any g q false (fun h => by cases h) w _ TT.out.a TT.out.below (by omega)).mono ?_
      rw [HR'.out]
      rintro e w4 ⟨v1, rfl, r1, h4⟩
      have H4 := Lib.hid h4; clear h4
      obtain ⟨A1, c1, rfl, hc1, hC1⟩ := Kd.R_reads r1
      have HC1 := Lib.hid hC1
      clear r1 hC1
      go_wp2_with fail
      refine (Texts_any A1 c1 x _ HC1.out hc1 HP'.out.1 HP'.out.2 (HM.out.below H4.out.below)).mono ?_
      rw [HRE.out]
      rintro e w5 ⟨rfl, h5⟩
      have L5 := Lib.hid (Lf.more H4.out _ (Or.inl (Nat.le_refl _)) h5)
      clear h5
      rcases HC.out with ⟨rfl, hS2⟩ | ⟨rfl, rfl, hS2⟩
      · have hlen : s.size = got.size + R.size + q'.size := by
          have := congrArg List.length hS2
          rw [List.length_append, List.length_append, len_size, len_size, len_size, len_size] at this
          exact this
        have hpre : (got ++ R).data.toList <+: s.data.toList := by rw [app_list]; exact ⟨_, hS2.symm⟩
        have HS2 := Lib.hid hS2; have HP := Lib.hid hpre
        clear hS2 hpre
        have j1 : (got.size : Int) + (R.size : Int) ≤ (s.size : Int) := by omega
        have j2 : (q'.size : Int) = (s.size : Int) - ((got.size : Int) + (R.size : Int)) := by omega
        clear hlen hsum
        go_wp2_with fail
        refine (RLeft_any g q' false w _ L5.out.is L5.out.below).mono ?_
        rintro e w6 ⟨rfl, rfl⟩
        go_wp2_with fail
        refine (begins_any s (got ++ R) _).mono ?_
        rw [decide_eq_true HP.out]
        rintro e w6 ⟨rfl, rfl⟩
        go_wp2
        go_roundw
        case rel => exact ⟨k + 1, got ++ R, q', by omega, rfl, by go_num, Lib.hid ⟨L5.out.is, L5.out.below, by rw [app_list]; exact HS2.out⟩⟩
        case measure => simp [intOf]; omega
      · have HS2 := Lib.hid hS2
        clear hS2
        by_cases j1 : got.size + R.size ≤ s.size
        · have j1i : (got.size : Int) + (R.size : Int) ≤ (s.size : Int) := by omega
          by_cases j2 : got.size + R.size = s.size
          · have hnp : ¬ (got ++ R).data.toList <+: s.data.toList := fun hp => HS2.out (by have := List.IsPrefix.eq_of_length hp (by rw [app_list, List.length_append, len_size, len_size, len_size]; exact j2); rw [app_list] at this; exact this.symm)
            have HP := Lib.hid hnp
            clear hnp
            have j2i : (got.size : Int) + (R.size : Int) = (s.size : Int) := by omega
            have j3 : (0 : Int) = (s.size : Int) - ((got.size : Int) + (R.size : Int)) := by omega
            clear j2 j1 j2i hsum
            go_wp2_with fail
            refine (RLeft_any g (mkB []) true w _ L5.out.is L5.out.below).mono ?_
            rw [show (((mkB []).size : Nat) : Int) = 0 from rfl]
            rintro e w6 ⟨rfl, rfl⟩
            go_wp2_with fail
            refine (begins_any s (got ++ R) _).mono ?_
            rw [decide_eq_false HP.out]
            rintro e w6 ⟨rfl, rfl⟩
            have D0 := Lib.hid L5.out
            go_wp2_with fail
            refine (RDone_any g (mkB []) true w _ L5.out.is L5.out.below).mono ?_
            rw [show (!true && ((mkB []).toList == ([] : List UInt8))) = false from rfl]
            rintro e w6 ⟨rfl, rfl⟩
            go_wp2_with fail
            refine (RLeft_any g (mkB []) true w _ L5.out.is L5.out.below).mono ?_
            rw [show (((mkB []).size : Nat) : Int) = 0 from rfl]
            rintro e w6 ⟨rfl, rfl⟩
            go_wp2_with fail
            refine (RInt_any g (mkB []) true w _ L5.out.is L5.out.below (by decide)).mono ?_
            rw [dead_int]
            rintro e w6 ⟨rfl, h6⟩
            have H6 := Lib.hid h6; clear h6
            go_wp2_with fail
            refine (RText_any g (mkB []) true w _ H6.out.is H6.out.below (by decide)).mono ?_
            rw [dead_text]
            rintro e w7 ⟨rfl, h7⟩
            have H7 := Lib.hid h7; clear h7
            go_wp2_with fail
            refine (RNums_any g (mkB []) true dead_ok w _ H7.out.is H7.out.below (by decide)).mono ?_
            rw [dead_nums]
            rintro e w8 ⟨v1, rfl, r1, h8⟩
            have H8 := Lib.hid h8; clear h8
            obtain ⟨A1, c1, rfl, _, _⟩ := Kd.R_reads r1
            clear r1
            go_wp2_with fail
            refine (RTexts_any g (mkB []) true dead_ok w _ H8.out.is H8.out.below (by decide)).mono ?_
            rw [dead_texts]
            rintro e w9 ⟨v2, rfl, r2, h9⟩
            have H9 := Lib.hid h9; clear h9
            obtain ⟨A2, c2, rfl, _, _⟩ := Kd.R_reads r2
            clear r2
            go_wp2_with fail
            refine (RNum_any g (mkB []) true w _ H9.out.is H9.out.below (by decide)).mono ?_
            rw [dead_num]
            rintro e w10 ⟨rfl, h10⟩
            have H10 := Lib.hid h10; clear h10
            go_wp2
            go_ret
            exact ⟨rfl, H10.out.below⟩
          · have j3 : ¬ (0 : Int) = (s.size : Int) - ((got.size : Int) + (R.size : Int)) := by omega
            clear hsum j2 j1
            go_wp2_with fail
            refine (RLeft_any g (mkB []) true w _ L5.out.is L5.out.below).mono ?_
            rw [show (((mkB []).size : Nat) : Int) = 0 from rfl]
            rintro e w6 ⟨rfl, rfl⟩
            have D0 := Lib.hid L5.out
            go_wp2_with fail
            refine (RDone_any g (mkB []) true w _ L5.out.is L5.out.below).mono ?_
            rw [show (!true && ((mkB []).toList == ([] : List UInt8))) = false from rfl]
            rintro e w6 ⟨rfl, rfl⟩
            go_wp2_with fail
            refine (RLeft_any g (mkB []) true w _ L5.out.is L5.out.below).mono ?_
            rw [show (((mkB []).size : Nat) : Int) = 0 from rfl]
            rintro e w6 ⟨rfl, rfl⟩
            go_wp2_with fail
            refine (RInt_any g (mkB []) true w _ L5.out.is L5.out.below (by decide)).mono ?_
            rw [dead_int]
            rintro e w6 ⟨rfl, h6⟩
            have H6 := Lib.hid h6; clear h6
            go_wp2_with fail
            refine (RText_any g (mkB []) true w _ H6.out.is H6.out.below (by decide)).mono ?_
            rw [dead_text]
            rintro e w7 ⟨rfl, h7⟩
            have H7 := Lib.hid h7; clear h7
            go_wp2_with fail
            refine (RNums_any g (mkB []) true dead_ok w _ H7.out.is H7.out.below (by decide)).mono ?_
            rw [dead_nums]
            rintro e w8 ⟨v1, rfl, r1, h8⟩
            have H8 := Lib.hid h8; clear h8
            obtain ⟨A1, c1, rfl, _, _⟩ := Kd.R_reads r1
            clear r1
            go_wp2_with fail
            refine (RTexts_any g (mkB []) true dead_ok w _ H8.out.is H8.out.below (by decide)).mono ?_
            rw [dead_texts]
            rintro e w9 ⟨v2, rfl, r2, h9⟩
            have H9 := Lib.hid h9; clear h9
            obtain ⟨A2, c2, rfl, _, _⟩ := Kd.R_reads r2
            clear r2
            go_wp2_with fail
            refine (RNum_any g (mkB []) true w _ H9.out.is H9.out.below (by decide)).mono ?_
            rw [dead_num]
            rintro e w10 ⟨rfl, h10⟩
            have H10 := Lib.hid h10; clear h10
            go_wp2
            go_ret
            exact ⟨rfl, H10.out.below⟩
        · have j1i : ¬ (got.size : Int) + (R.size : Int) ≤ (s.size : Int) := by omega
          clear hsum
          have D0 := Lib.hid L5.out
          go_wp2_with fail
          refine (RDone_any g (mkB []) true w _ L5.out.is L5.out.below).mono ?_
          rw [show (!true && ((mkB []).toList == ([] : List UInt8))) = false from rfl]
          rintro e w6 ⟨rfl, rfl⟩
          go_wp2_with fail
          refine (RLeft_any g (mkB []) true w _ L5.out.is L5.out.below).mono ?_
          rw [show (((mkB []).size : Nat) : Int) = 0 from rfl]
          rintro e w6 ⟨rfl, rfl⟩
          go_wp2_with fail
          refine (RInt_any g (mkB []) true w _ L5.out.is L5.out.below (by decide)).mono ?_
          rw [dead_int]
          rintro e w6 ⟨rfl, h6⟩
          have H6 := Lib.hid h6; clear h6
          go_wp2_with fail
          refine (RText_any g (mkB []) true w _ H6.out.is H6.out.below (by decide)).mono ?_
          rw [dead_text]
          rintro e w7 ⟨rfl, h7⟩
          have H7 := Lib.hid h7; clear h7
          go_wp2_with fail
          refine (RNums_any g (mkB []) true dead_ok w _ H7.out.is H7.out.below (by decide)).mono ?_
          rw [dead_nums]
          rintro e w8 ⟨v1, rfl, r1, h8⟩
          have H8 := Lib.hid h8; clear h8
          obtain ⟨A1, c1, rfl, _, _⟩ := Kd.R_reads r1
          clear r1
          go_wp2_with fail
          refine (RTexts_any g (mkB []) true dead_ok w _ H8.out.is H8.out.below (by decide)).mono ?_
          rw [dead_texts]
          rintro e w9 ⟨v2, rfl, r2, h9⟩
          have H9 := Lib.hid h9; clear h9
          obtain ⟨A2, c2, rfl, _, _⟩ := Kd.R_reads r2
          clear r2
          go_wp2_with fail
          refine (RNum_any g (mkB []) true w _ H9.out.is H9.out.below (by decide)).mono ?_
          rw [dead_num]
          rintro e w10 ⟨rfl, h10⟩
          have H10 := Lib.hid h10; clear h10
          go_wp2
          go_ret
          exact ⟨rfl, H10.out.below⟩
    · obtain rfl : k = l.length := by omega
      go_wp2
      go_ret
      exact ⟨rfl, TT.out.below⟩
#print axioms WireOnly_any
end Go.Proofs.YtdgejkiackeieaaDoor.Wr
end
