/- The contract of digest's Short: the first eight bytes of the digest as a number, its last four bits left out. -/
import Derived.Test.YtdgejkiackeieaaDoorXb
import Derived.Laws.BitsAllLaws
import Derived.Lib.Strings
import Derived.Lib.Hide
import Derived.Outline
set_option linter.unusedVariables false
set_option linter.unusedSimpArgs false
namespace Go.Proofs.YtdgejkiackeieaaDoor
open Go.RowKit
theorem sumH_length (f : Nat) : ∀ (h : List Int) (s : ByteArray) (e : Nat), (sumH f h s e).length = h.length := by
  induction f with
  | zero => intro h s e; exact compressI_length _ _ _ _
  | succ f ih =>
    intro h s e
    rw [sumH]
    split
    · rw [ih]; exact compressI_length _ _ _ _
    · exact compressI_length _ _ _ _
theorem sumBytes_length (s : ByteArray) : (sumBytes s).length = 32 := by
  have : ∀ l : List Int, (l.flatMap wordBytes).length = 4 * l.length := by
    intro l
    induction l with
    | nil => rfl
    | cons x l ih => simp only [List.flatMap_cons, List.length_append, ih, List.length_cons, wordBytes, List.length_map, List.length_nil]; omega
  unfold sumBytes
  rw [this, sumH_length]
  rfl
/-- Bytes as a number, the greatest first. -/
def bigN (l : List UInt8) : Nat := l.foldl (fun n c => n * 256 + c.toNat) 0
theorem bigN_snoc (l : List UInt8) (c : UInt8) : bigN (l ++ [c]) = bigN l * 256 + c.toNat := by simp [bigN]
theorem bigN_lt (l : List UInt8) : bigN l < 256 ^ l.length := by
  have : ∀ (m : List UInt8) (n : Nat), m.foldl (fun n c => n * 256 + c.toNat) n < (n + 1) * 256 ^ m.length := by
    intro m
    induction m with
    | nil => intro n; simp
    | cons c m ih =>
      intro n
      have h := ih (n * 256 + c.toNat)
      have hc := c.toNat_lt
      have : (n * 256 + c.toNat + 1) * 256 ^ m.length ≤ (n + 1) * 256 * 256 ^ m.length := Nat.mul_le_mul_right _ (by omega)
      simp only [List.foldl_cons, List.length_cons]
      rw [Nat.pow_succ, Nat.mul_comm (256 ^ m.length) 256, ← Nat.mul_assoc]
      omega
  have h := this l 0
  simpa [bigN] using h
def shortN (s : ByteArray) : Nat := bigN ((sumBytes s).take 8) / 16
theorem or_byte (n : Nat) (c : Nat) (hn : n < 2 ^ 56) (hc : c < 256) : Go.bits .or .u64 ((n : Int) * 256) (c : Int) = ((n * 256 + c : Nat) : Int) := by
  have e := u64_or_nat (n * 256) c (by omega) (by omega)
  rw [nat_join 8 (n * 256) c (by omega) (by omega)] at e
  rw [← e]
  rfl
theorem wrap_u64 (n : Int) : IntKind.u64.wrap n = n % 18446744073709551616 := by simp [IntKind.wrap, IntKind.bits, IntKind.signed]
theorem ret_int {k : IntKind} {a b : Int} (h : a = b) : Ending.returned (.int k a) = .returned (.int k b) := by rw [h]
theorem or_byte' (n : Nat) (c : Nat) (hn : n < 2 ^ 56) (hc : c < 256) : Go.bits .or .u64 (IntKind.u64.wrap ((n : Int) * 256)) (IntKind.u64.wrap (c : Int)) = ((n * 256 + c : Nat) : Int) := by
  have e1 : IntKind.u64.wrap ((n : Int) * 256) = (n : Int) * 256 := by rw [wrap_u64]; omega
  have e2 : IntKind.u64.wrap (c : Int) = (c : Int) := by rw [wrap_u64]; omega
  rw [e1, e2, or_byte n c hn hc]
set_option maxHeartbeats 4000000 in
set_option maxRecDepth 100000 in
theorem short_any (s : ByteArray) (w : World) (hs : s.size ≤ 1000000) (hD : DigW w) :
    Calls Tryd.prog 33 #[.string s] w fun e w' => e = .returned (.int .i64 (shortN s : Int)) ∧ Below w.heap.size w w' := by
  have kc := fun (w : World) (s : ByteArray) => Lib.run_convert_string_bytes (P := Tryd.prog) w 9 30 5 s (u := .string) Tryd.underlying9 Tryd.underlying30 Tryd.underlying5
  have hS : ByteArray.size ⟨(sumBytes s).toArray⟩ = 32 := by show (sumBytes s).toArray.size = 32; rw [List.size_toArray, sumBytes_length]
  go_enter Tryd.func33, Tryd.ntmps33
  go_wp2_with (go_at_call 31; refine (sum_any s hs _ hD.ok hD.two).mono ?_; rintro e w1 ⟨rfl, hb⟩)
  obtain ⟨D, hD1⟩ : ∃ D : ByteArray, (ByteArray.extract ⟨(sumBytes s).toArray⟩ 0 8) = D := ⟨_, rfl⟩
  have hDl : D.data.toList = (sumBytes s).take 8 := by rw [← hD1, Lib.extract_data]; simp
  have hDs : D.size = 8 := by rw [← ByteArray.size_data, ← Array.length_toList, hDl, List.length_take, sumBytes_length]; rfl
  obtain ⟨C, hC⟩ : ∃ C : Nat, grownCap w1 8 0 5 = C := ⟨_, rfl⟩
  rw [hD1, hC]
  clear hD1 hC hD
  have hcell : ∀ j, j < 8 → (Lib.bytesWorld w1 5 D).cell? ⟨w1.heap.size, j, none⟩ = some (.int .u8 ((D.data.toList.getD j 0).toNat : Int)) := fun j hj => Lib.bytesWorld_cell w1 5 D j (by omega)
  have hbw : Below w.heap.size w (Lib.bytesWorld w1 5 D) := hb.trans ⟨rfl, rfl, rfl, by rw [Lib.bytesWorld_size]; have := hb.size; omega, fun i hi => Lib.bytesWorld_at_old w1 5 D i (by have := hb.size; omega)⟩
  obtain ⟨W, hW⟩ : ∃ W, Lib.bytesWorld w1 5 D = W := ⟨_, rfl⟩
  rw [hW] at hcell hbw ⊢
  have HDl := Lib.hid hDl
  have HDs := Lib.hid hDs
  clear hW kc hDl hDs hS hb
  have hcell' := Lib.hid hcell
  clear hcell
  go_loop [3, 11] (fun n i => ∃ k : Nat, k ≤ 8 ∧ i = .int .i64 k ∧ n = .int .u64 (bigN (D.data.toList.take k) : Int)) (fun _ i => 8 - (intOf i).toNat)
  case atStart => exact ⟨0, by omega, rfl, rfl⟩
  case round =>
    obtain ⟨k, hk, rfl, rfl⟩ := hrel
    by_cases hlt : k < 8
    · have hl : D.data.toList.length = 8 := by rw [Array.length_toList]; exact HDs.out
      have hg : D.data.toList.getD k 0 = D.data.toList[k]'(by omega) := by simp [List.getD_eq_getElem?_getD, List.getElem?_eq_getElem (show k < D.data.toList.length by omega)]
      have hcl := hcell'.out k hlt
      rw [hg] at hcl
      obtain ⟨c, hc⟩ : ∃ c : UInt8, D.data.toList[k]'(by omega) = c := ⟨_, rfl⟩
      have hT : bigN (D.data.toList.take (k + 1)) = bigN (D.data.toList.take k) * 256 + c.toNat := by
        rw [List.take_succ_eq_append_getElem (by omega), bigN_snoc, hc]
      rw [hc] at hcl
      have hb1 := bigN_lt (D.data.toList.take k)
      have hb2 : bigN (D.data.toList.take k) < 2 ^ 56 := by
        refine Nat.lt_of_lt_of_le hb1 ?_
        rw [show (2 : Nat) ^ 56 = 256 ^ 7 by decide]
        exact Nat.pow_le_pow_right (by decide) (by rw [List.length_take]; omega)
      obtain ⟨n, hn⟩ : ∃ n : Nat, bigN (D.data.toList.take k) = n := ⟨_, rfl⟩
      rw [hn] at hb2 hT ⊢
      obtain ⟨m, hm⟩ : ∃ m : Nat, c.toNat = m := ⟨_, rfl⟩
      have hm1 : m < 256 := by rw [← hm]; exact c.toNat_lt
      rw [hm] at hT hcl
      have HO := Lib.hid (or_byte' n m (by omega) (by omega))
      have HT := Lib.hid hT
      clear hT hn hc hg hl hb1 hb2 hm hm1
      go_wp2
      go_round
      case rel => exact ⟨k + 1, by omega, by go_num, by rw [HT.out, HO.out]⟩
      case measure => simp [intOf]; omega
    · obtain rfl : k = 8 := by omega
      have hb1 := bigN_lt (D.data.toList.take 8)
      have hb2 : bigN (D.data.toList.take 8) < 18446744073709551616 := by
        refine Nat.lt_of_lt_of_le hb1 ?_
        rw [show (18446744073709551616 : Nat) = 256 ^ 8 by decide]
        exact Nat.pow_le_pow_right (by decide) (by rw [List.length_take]; omega)
      have hT : bigN (D.data.toList.take 8) / 16 = shortN s := by unfold shortN; rw [HDl.out, List.take_take]; rfl
      obtain ⟨n, hn⟩ : ∃ n : Nat, bigN (D.data.toList.take 8) = n := ⟨_, rfl⟩
      rw [hn] at hb2 hT ⊢
      have n0 : 0 ≤ (n : Int) := by omega
      have HN := Lib.hid hb2
      have HT := Lib.hid hT
      have hv : Hid (wrap64 ((n : Int) / 16) = (shortN s : Int)) := Lib.hid (by rw [← hT]; unfold wrap64; omega)
      clear hT hn hb1 hb2
      go_wp2
      go_ret
      exact ⟨ret_int hv.out, hbw⟩
#print axioms short_any
end Go.Proofs.YtdgejkiackeieaaDoor
