/- The contract of digest's Unhex. -/
import Derived.Test.YtdgejkiackeieaaDoorShA
import Derived.Test.YtdgejkiackeieaaDoorHexT
import Derived.Deep.QuietTactic
import Derived.BigQuiet
import Derived.WalkSmall
set_option linter.unusedVariables false
set_option linter.unusedSimpArgs false
namespace Go.Proofs.YtdgejkiackeieaaDoor
open Go.RowKit
abbrev digitsB : ByteArray := { data := #[48, 49, 50, 51, 52, 53, 54, 55, 56, 57, 97, 98, 99, 100, 101, 102] }
/-- The number of a digit, or -1. -/
def hv (c : UInt8) : Int := Lib.indexByte digitsB.data.toList c
def unhexL : List UInt8 → Option (List UInt8)
  | [] => some []
  | [_] => none
  | a :: b :: l => if hv a < 0 ∨ hv b < 0 then none else (unhexL l).map fun r => UInt8.ofNat (16 * hv a + hv b).toNat :: r
theorem hv_lt (c : UInt8) : -1 ≤ hv c ∧ hv c < 16 := by
  have : ∀ n : Fin 256, -1 ≤ hv (UInt8.ofNat n.val) ∧ hv (UInt8.ofNat n.val) < 16 := by decide +kernel
  simpa using this ⟨c.toNat, c.toNat_lt⟩
theorem ib_any (c : UInt8) (w : World) : Calls Tryd.prog 94 #[.string digitsB, .int .u8 c.toNat] w fun e w' => e = .returned (.int .i64 (hv c)) ∧ w' = w := by
  have h := Tryd.strings_IndexByte digitsB (c.toNat : Int) w
  have e : ((c.toNat : Int)).toNat.toUInt8 = c := by simp
  rw [e] at h
  exact h
theorem unhexL_length : ∀ (l r : List UInt8), unhexL l = some r → 2 * r.length = l.length
  | [], r, h => by simp [unhexL] at h; subst h; rfl
  | [_], r, h => by simp [unhexL] at h
  | a :: b :: l, r, h => by
    unfold unhexL at h
    split at h
    · cases h
    · obtain ⟨r', h1, h2⟩ := Option.map_eq_some_iff.1 h
      have := unhexL_length l r' h1
      subst h2
      simp; omega
theorem unhexL_odd : ∀ (l : List UInt8), l.length % 2 = 1 → unhexL l = none
  | [], h => by simp at h
  | [_], _ => rfl
  | a :: b :: l, h => by
    unfold unhexL
    split
    · rfl
    · rw [unhexL_odd l (by simp at h; omega)]; rfl
/-- What Unhex answers. -/
def unhexR (l : List UInt8) : ByteArray × Bool := match unhexL l with | some r => (⟨r.toArray⟩, true) | none => (⟨#[]⟩, false)
theorem drop_two (s : ByteArray) (k : Nat) (h : k + 1 < s.size) : s.data.toList.drop k = s[k] :: s[k+1] :: s.data.toList.drop (k + 2) := by
  rw [List.drop_eq_getElem_cons (by simp; omega), List.drop_eq_getElem_cons (by simp; omega)]; rfl
set_option maxHeartbeats 4000000 in
set_option maxRecDepth 1000000 in
theorem unhex_walk (s : ByteArray) (w : World) (hs : s.size ≤ 1000000) :
    Calls Tryd.prog 27 #[.string s] w fun e w' => e = .returned (.tuple #[.string (unhexR s.data.toList).1, .bool (unhexR s.data.toList).2]) ∧ Below w.heap.size w w' := by
  by_cases hodd : s.size % 2 = 1
  · have ho : ((s.size : Int) % 2 == 1) = true := by simp; omega
    go_enter Tryd.func27, Tryd.ntmps27
    go_wp2
    go_ret2
    have := unhexL_odd s.data.toList (by simpa using hodd)
    unfold unhexR; rw [this]
    exact ⟨rfl, (Below.refl _ w).alloc (Nat.le_refl _) _⟩
  · have ho : ((s.size : Int) % 2 == 1) = false := by simp; omega
    go_enter Tryd.func27, Tryd.ntmps27
    go_wp2
    go_loopw [5, 6, 7] (fun i _ _ wr => ∃ (j : Nat) (acc : List UInt8), 2 * j ≤ s.size ∧ i = .int .i64 (2 * j : Nat) ∧ acc.length = j ∧ unhexL s.data.toList = (unhexL (s.data.toList.drop (2 * j))).map (acc ++ ·) ∧ Lib.IsBuilderF 91 5 w.heap.size w.heap.size (Lib.byteCells acc) wr ∧ Below w.heap.size w wr) (fun i _ _ _ => s.size - (intOf i).toNat)
    case atStart =>
      exact ⟨0, [], by omega, rfl, rfl, by simp, Lib.IsBuilderF.of (Lib.fresh_isBuilder 91 5 w), (Below.refl _ w).alloc (Nat.le_refl _) _⟩
    case round =>
      obtain ⟨j, acc, hk, rfl, hac, hU, hI, hbw⟩ := hrel
      obtain ⟨k, hkj⟩ : ∃ k, k = 2 * j := ⟨_, rfl⟩
      rw [← hkj] at hk hU ⊢
      have HJ := Lib.hid hkj; clear hkj
      have HA := Lib.hid hac; clear hac
      have HU := Lib.hid hU; clear hU
      have HO : ¬ s.size % 2 = 1 := hodd
      clear ho
      have hsz : w.heap.size ≤ wr.heap.size := hbw.size
      by_cases hlt : k < s.size
      · have hlt1 : k + 1 < s.size := by have := HJ.out; omega
        have HD := Lib.hid (drop_two s k hlt1)
        have b1 := hv_lt s[k]
        have b2 := hv_lt s[k+1]
        have e1 : IntKind.i64.wrap ((k : Int) + 1) = k + 1 := by rw [IntKind.wrap_i64]; omega
        have e2 : 0 ≤ (k : Int) + 1 := by omega
        have e3 : ((k : Int) + 1).toNat = k + 1 := by omega
        have e4 : (k : Int) + 1 < s.size := by omega
        go_wp2_with fail
        go_quiet ((go_at_call 94; exact Calls.quiet_of_same (ib_any _ _)))
        clear e1
        have hI' : Lib.IsBuilderF 91 5 w.heap.size w.heap.size (Lib.byteCells acc) (wr.drewN nq) := hI
        have hbw' : Below w.heap.size w (wr.drewN nq) := below_drewN hbw nq
        have hsz' : w.heap.size ≤ (wr.drewN nq).heap.size := hsz
        by_cases h1 : hv s[k] < 0
        · have hd : decide (hv s[k] < 0) = true := decide_eq_true h1
          go_wp2
          go_ret2
          have hn : unhexL s.data.toList = none := by rw [HU.out, HD.out, unhexL, if_pos (.inl h1)]; rfl
          unfold unhexR; rw [hn]
          exact ⟨rfl, hbw'⟩
        · have hd : decide (hv s[k] < 0) = false := decide_eq_false h1
          by_cases h2 : hv s[k+1] < 0
          · have hd2 : decide (hv s[k+1] < 0) = true := decide_eq_true h2
            go_wp2
            go_ret2
            have hn : unhexL s.data.toList = none := by rw [HU.out, HD.out, unhexL, if_pos (.inr h2)]; rfl
            unfold unhexR; rw [hn]
            exact ⟨rfl, hbw'⟩
          · have hd2 : decide (hv s[k+1] < 0) = false := decide_eq_false h2
            have HN := Lib.hid (show unhexL (s.data.toList.drop k) = (unhexL (s.data.toList.drop (k + 2))).map fun r => UInt8.ofNat (16 * hv s[k] + hv s[k+1]).toNat :: r by rw [HD.out, unhexL, if_neg (by omega)])
            have HB := Lib.hid (show (UInt8.ofNat (16 * hv s[k] + hv s[k+1]).toNat).toNat = 16 * hv s[k] + hv s[k+1] by
              rw [UInt8.toNat_ofNat', Nat.mod_eq_of_lt (by omega)]; omega)
            have q1 : 0 ≤ hv s[k] := by omega
            have q2 : 0 ≤ hv s[k+1] := by omega
            clear HD h1 h2
            go_wp2_with fail
            refine (writeByte_any w.heap.size w.heap.size _ _ _ hI' (by have := HA.out; have := HJ.out; rw [Lib.byteCells_length]; omega) hsz').mono ?_
            rintro e W1 ⟨rfl, h1, b1, _⟩
            go_wp2
            go_roundw
            case rel =>
              have hj := HJ.out
              refine ⟨j + 1, acc ++ [UInt8.ofNat (16 * hv s[k] + hv s[k+1]).toNat], by omega, ?_, by have := HA.out; simp; omega, ?_, ?_, hbw'.trans b1⟩
              · rw [hj]; go_num
              · rw [HU.out, HN.out, show 2 * (j + 1) = k + 2 by omega]; simp [Option.map_map, Function.comp_def]
              · have hc : Lib.byteCells (acc ++ [UInt8.ofNat (16 * hv s[k] + hv s[k+1]).toNat]) = Lib.byteCells acc ++ [.int .u8 (16 * hv s[k] + hv s[k+1])] := by
                  rw [Lib.byteCells_append]
                  congr 1
                  show [Value.int .u8 _] = _
                  rw [HB.out]
                rw [hc]
                exact Or.inr h1
            case measure => simp [intOf]; omega
      · have hE : k = s.size := by omega
        have hU' : unhexL s.data.toList = some acc := by rw [HU.out, hE, List.drop_eq_nil_of_le (by simp)]; simp [unhexL]
        have HR := Lib.hid (show unhexR s.data.toList = (⟨acc.toArray⟩, true) by unfold unhexR; rw [hU'])
        clear hU' hE
        go_wp2_with fail
        refine (Tryd.Builder_String_any_k w.heap.size w.heap.size _ wr hI hsz).mono ?_
        rintro e W1 ⟨rfl, _, b1, _⟩
        go_wp2
        go_ret2
        rw [HR.out]
        exact ⟨rfl, hbw.trans b1⟩
#print axioms unhex_walk
end Go.Proofs.YtdgejkiackeieaaDoor
