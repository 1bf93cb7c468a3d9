/- The contract of digest's Hex. -/
import Derived.Test.YtdgejkiackeieaaDoorShA
import Derived.Test.YtdgejkiackeieaaDoorBld
import Derived.WalkKit
import Derived.BigCall
import Derived.Outline
import Derived.Lib.Hide
import Derived.Laws.BitsLemmas
set_option linter.unusedVariables false
set_option linter.unusedSimpArgs false
namespace Go.Proofs.YtdgejkiackeieaaDoor
open Go.RowKit
/-- The digit of a number below 16. -/
def dig (n : Nat) : UInt8 := if n < 10 then UInt8.ofNat (48 + n) else UInt8.ofNat (87 + n)
def hexL (l : List UInt8) : List UInt8 := l.flatMap fun c => [dig (c.toNat / 16), dig (c.toNat % 16)]
theorem hexL_length (l : List UInt8) : (hexL l).length = 2 * l.length := by
  induction l with
  | nil => rfl
  | cons c l ih => simp only [hexL, List.flatMap_cons, List.length_append, List.length_cons, List.length_nil] at ih ⊢; omega
theorem take_snoc (s : ByteArray) (k : Nat) (h : k < s.size) : s.data.toList.take (k + 1) = s.data.toList.take k ++ [s[k]] := by
  rw [List.take_succ_eq_append_getElem (by simpa using h)]; rfl
theorem digits_at : ∀ (n : Nat) (h : n < 16), (({ data := #[48, 49, 50, 51, 52, 53, 54, 55, 56, 57, 97, 98, 99, 100, 101, 102] } : ByteArray)[n]'h) = dig n := by decide
theorem hex_snoc (s : ByteArray) (k : Nat) (h : k < s.size) : hexL (s.data.toList.take (k + 1)) = hexL (s.data.toList.take k) ++ [dig (s[k].toNat / 16)] ++ [dig (s[k].toNat % 16)] := by
  rw [take_snoc s k h]; simp [hexL]
set_option maxHeartbeats 4000000 in
set_option maxRecDepth 1000000 in
theorem hex_walk (s : ByteArray) (w : World) (hs : s.size ≤ 1000000) :
    Calls Tryd.prog 26 #[.string s] w fun e w' => e = .returned (.string ⟨(hexL s.data.toList).toArray⟩) ∧ Below w.heap.size w w' := by
  go_enter Tryd.func26, Tryd.ntmps26
  go_wp2
  go_loopw [4, 7] (fun _ i wr => ∃ k : Nat, k ≤ s.size ∧ i = .int .i64 k ∧ Lib.IsBuilderF 91 5 w.heap.size w.heap.size (Lib.byteCells (hexL (s.data.toList.take k))) wr ∧ Below w.heap.size w wr) (fun _ i _ => s.size - (intOf i).toNat)
  case atStart =>
    exact ⟨0, by omega, rfl, Lib.IsBuilderF.of (Lib.fresh_isBuilder 91 5 w), (Below.refl _ w).alloc (Nat.le_refl _) _⟩
  case round =>
    obtain ⟨k, hk, rfl, hI, hbw⟩ := hrel
    have hsz : w.heap.size ≤ wr.heap.size := hbw.size
    by_cases hlt : k < s.size
    · have HL := hexL_length (s.data.toList.take k)
      have HK : (s.data.toList.take k).length ≤ k := List.length_take_le _ _
      have h255 : s[k].toNat < 256 := s[k].toNat_lt
      have d0 : 0 ≤ (s[k].toNat : Int) / 16 := by omega
      have d1 : (s[k].toNat : Int) / 16 < 16 := by omega
      have d2 : 0 ≤ (s[k].toNat : Int) % 16 := by omega
      have d3 : (s[k].toNat : Int) % 16 < 16 := by omega
      have da := u8_and15 (s[k].toNat : Int) (by omega) (by omega)
      have dg1 := digits_at (s[k].toNat / 16) (by omega)
      have dg2 := digits_at (s[k].toNat % 16) (by omega)
      have HS := Lib.hid (hex_snoc s k hlt)
      go_wp2_with fail
      refine (writeByte_any w.heap.size w.heap.size _ _ _ hI (by rw [Lib.byteCells_length]; omega) hsz).mono ?_
      rintro e W1 ⟨rfl, h1, b1, _⟩
      have hsz1 : w.heap.size ≤ W1.heap.size := Nat.le_trans hsz b1.size
      go_wp2_with fail
      refine (writeByte_any w.heap.size w.heap.size _ _ _ (Or.inr h1) (by simp only [List.length_append, Lib.byteCells_length, List.length_cons, List.length_nil]; omega) hsz1).mono ?_
      rintro e W2 ⟨rfl, h2, b2, _⟩
      go_wp2
      go_roundw
      case rel =>
        refine ⟨k + 1, by omega, by go_num, ?_, (hbw.trans b1).trans b2⟩
        rw [HS.out, Lib.byteCells_append, Lib.byteCells_append]
        exact Or.inr h2
      case measure => simp [intOf]; omega
    · obtain rfl : k = s.size := by omega
      have hT : hexL (s.data.toList.take s.size) = hexL s.data.toList := by rw [List.take_of_length_le (by simp)]
      rw [hT] at hI
      go_wp2_with fail
      refine (Tryd.Builder_String_any_k w.heap.size w.heap.size _ wr hI hsz).mono ?_
      rintro e W1 ⟨rfl, _, b1, _⟩
      go_wp2
      go_ret
      exact ⟨rfl, hbw.trans b1⟩
#print axioms hex_walk
end Go.Proofs.YtdgejkiackeieaaDoor
