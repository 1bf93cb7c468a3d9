/- The contract of the law's helper 'flipped': some bits of a string, turned. -/
import Derived.Test.YtdgejkiackeieaaDoorBytM
import Derived.BigCall
set_option linter.unusedVariables false
set_option linter.unusedSimpArgs false
namespace Go.Proofs.YtdgejkiackeieaaDoor
open Go.RowKit Go.Proofs.YtdgejkiackeieaaDoorW.PrintLast
/-- Bit k of a pattern, as the code asks it. -/
def pbit (p : Int) (k : Nat) : Bool := Go.bits .and .i64 (p / 2 ^ k) 1 == 1
def flip1 (X : List Int) (A : Nat) : List Int := X.set (A / 8) (Go.bits .xor .u8 (el X (A / 8)) (IntKind.u8.wrap (2 ^ (A % 8))))
def flipI (X : List Int) (bit : Nat) (p : Int) : Nat → List Int
  | 0 => X
  | k + 1 => if pbit p k = true ∧ bit + k < 8 * X.length then flip1 (flipI X bit p k) (bit + k) else flipI X bit p k
theorem flipI_length (X : List Int) (bit : Nat) (p : Int) (k : Nat) : (flipI X bit p k).length = X.length := by
  induction k with
  | zero => rfl
  | succ k ih => rw [flipI]; split
                 · rw [flip1, List.length_set, ih]
                 · exact ih
theorem flip_yes (X : List Int) (bit : Nat) (p : Int) (k : Nat) (h1 : pbit p k = true) (h2 : bit + k < 8 * X.length) : flipI X bit p (k + 1) = flip1 (flipI X bit p k) (bit + k) := by rw [flipI, if_pos ⟨h1, h2⟩]
theorem flip_no (X : List Int) (bit : Nat) (p : Int) (k : Nat) (h1 : ¬ (pbit p k = true ∧ bit + k < 8 * X.length)) : flipI X bit p (k + 1) = flipI X bit p k := by rw [flipI, if_neg h1]
theorem ret_str {a b : ByteArray} (h : a = b) : Ending.returned (.string a) = .returned (.string b) := by rw [h]
theorem wrap_q8 (A : Nat) (h : A < 100000) : wrap64 ((A : Int) / 8) = ((A / 8 : Nat) : Int) := by unfold wrap64; omega
theorem tmod8 (A : Nat) : (A : Int).tmod 8 = ((A % 8 : Nat) : Int) := by rw [Int.tmod_eq_emod_of_nonneg (by omega)]; omega
set_option maxHeartbeats 8000000 in
set_option maxRecDepth 1000000 in
theorem flipped_any (s : ByteArray) (hs : s.size ≤ 2000) (bit : Nat) (hbit : bit < 20000) (p : Int) (w : World) :
    Calls Tryd.prog 28 #[.string s, .int .i64 bit, .int .i64 p] w fun e w' => e = .returned (.string (strOfNums (flipI (ints (nb s)) bit p 16))) ∧ Below w.heap.size w w' := by
  have kc := fun (w : World) (s : ByteArray) => Lib.run_convert_string_bytes (P := Tryd.prog) w 9 30 5 s (u := .string) Tryd.underlying9 Tryd.underlying30 Tryd.underlying5
  have hZ0 : (ints (nb s)).length = s.size := by rw [ints_length, nb_length]
  go_enter Tryd.func28, Tryd.ntmps28
  go_wp2
  have hb0 := byt_made w s
  have hbl := byt_made_below (B := w.heap.size) w s (Nat.le_refl _)
  obtain ⟨W, hW⟩ : ∃ W, Lib.bytesWorld w 5 s = W := ⟨_, rfl⟩
  obtain ⟨C, hC⟩ : ∃ C : Nat, grownCap w s.size 0 5 = C := ⟨_, rfl⟩
  obtain ⟨g, hg⟩ : ∃ g : Nat, w.heap.size = g := ⟨_, rfl⟩
  obtain ⟨Z, hZ⟩ : ∃ Z, ints (nb s) = Z := ⟨_, rfl⟩
  rw [hW, hC, hg]
  rw [hW, hg, hZ] at hb0
  rw [hW] at hbl
  rw [hZ] at hZ0
  have HZ := Lib.hid hZ
  have HZ0 := Lib.hid hZ0
  have HG := Lib.hid hg
  have HBL := Lib.hid hbl
  clear hW hC kc hZ hZ0 hg hbl
  obtain ⟨n, hn⟩ : ∃ n : Nat, s.size = n := ⟨_, rfl⟩
  rw [hn]
  have HN := Lib.hid hn
  have hn2 : n ≤ 2000 := by omega
  clear hn hs
  go_loopw [8] (fun i wr => ∃ k : Nat, k ≤ 16 ∧ i = .int .i64 k ∧ Byt wr g (flipI Z bit p k) ∧ Hid (Below w.heap.size w wr)) (fun i _ => 16 - (intOf i).toNat)
  case atStart => exact ⟨0, by omega, rfl, hb0, HBL⟩
  case round =>
    obtain ⟨k, hk, rfl, hA, hbw⟩ := hrel
    have HL := flipI_length Z bit p k
    have HL0 : Z.length = n := HZ0.out.trans HN.out
    obtain ⟨X, hX⟩ : ∃ X, flipI Z bit p k = X := ⟨_, rfl⟩
    rw [hX] at hA HL
    have HX := Lib.hid hX; clear hX
    by_cases hlt : k < 16
    · obtain ⟨A, hA1⟩ : ∃ A : Nat, bit + k = A := ⟨_, rfl⟩
      have a1 : (bit : Int) + (k : Int) = (A : Int) := by omega
      have hA2 : A < 100000 := by omega
      cases hp : pbit p k with
      | false =>
        have hpb : (Go.bits .and .i64 (p / 2 ^ k) 1 == 1) = false := hp
        have HF := Lib.hid (flip_no Z bit p k (by rw [hp]; simp))
        have HLh := Lib.hid HL; have HL0h := Lib.hid HL0; have HA1 := Lib.hid hA1
        clear hp HL HL0 hA1
        go_wp2
        go_roundw
        case rel => exact ⟨k + 1, by omega, by go_num, by rw [HF.out, HX.out]; exact hA, hbw⟩
        case measure => simp [intOf]; omega
      | true =>
        have hpb : (Go.bits .and .i64 (p / 2 ^ k) 1 == 1) = true := hp
        by_cases hin : A < 8 * n
        · have HF := Lib.hid (flip_yes Z bit p k hp (by omega))
          obtain ⟨q, hq⟩ : ∃ q, A / 8 = q := ⟨_, rfl⟩
          obtain ⟨r, hr⟩ : ∃ r, A % 8 = r := ⟨_, rfl⟩
          have w1 := wrap_q8 A hA2
          have w2 := tmod8 A
          rw [hq] at w1
          rw [hr] at w2
          have i1 : (q : Int) < n := by omega
          have i6 : q < X.length := by omega
          have i4 : (0 : Int) ≤ r := by omega
          have i5 : (r : Int) ≤ 7 := by omega
          have i8 : (A : Int) < 8 * n := by omega
          have c0 := hA.cell q i6
          have f0 := hA.frozen q i6
          have HLh := Lib.hid HL; have HL0h := Lib.hid HL0; have HA1 := Lib.hid hA1; have HQ := Lib.hid hq; have HR := Lib.hid hr
          clear hp HL HL0 hA1 hq hr
          go_wp2_with fail
          refine start_ (n := 14) (S := fun w' => w'.cell? ⟨g, q, none⟩ = some (.int .u8 (el X q))) (ds := [13]) #[false, false, false, false, false, false, false, false, false, false, false, false, false, false] (by kernel_rfl) rfl rfl (c0) (fun hHeld => ?_)
          refine pure_ (i := 0) (N := some 31) (v := ?_) (a' := ?_) #[true, false, false, false, false, false, false, false, false, false, false, false, false, false] rfl rfl (by kernel_rfl) (fun _ _ _ h => h) (Or.inl ⟨by rfl, ?_⟩) ?_ ?_
          rotate_left
          · intro w'
            go_simp
            with_reducible rfl
          rotate_left
          · simp only [Act.put, List.setIfInBounds_toArray, List.set_cons_zero, List.set_cons_succ, i64_w, i32_w]
            rfl
          refine pure_ (i := 1) (N := some 32) (v := ?_) (a' := ?_) #[true, true, false, false, false, false, false, false, false, false, false, false, false, false] rfl rfl (by kernel_rfl) (fun _ _ _ h => h) (Or.inl ⟨by rfl, ?_⟩) ?_ ?_
          rotate_left
          · intro w'
            go_simp
            with_reducible rfl
          rotate_left
          · simp only [Act.put, List.setIfInBounds_toArray, List.set_cons_zero, List.set_cons_succ, i64_w, i32_w]
            rfl
          refine pure_ (i := 2) (N := some 33) (v := ?_) (a' := ?_) #[true, true, true, false, false, false, false, false, false, false, false, false, false, false] rfl rfl (by kernel_rfl) (fun _ _ _ h => h) (Or.inl ⟨by rfl, ?_⟩) ?_ ?_
          rotate_left
          · intro w'
            go_simp
            with_reducible rfl
          rotate_left
          · simp only [Act.put, List.setIfInBounds_toArray, List.set_cons_zero, List.set_cons_succ, i64_w, i32_w]
            rfl
          refine pure_ (i := 3) (N := some 34) (v := ?_) (a' := ?_) #[true, true, true, true, false, false, false, false, false, false, false, false, false, false] rfl rfl (by kernel_rfl) (fun _ _ _ h => h) (Or.inl ⟨by rfl, ?_⟩) ?_ ?_
          rotate_left
          · intro w'
            go_simp
            with_reducible rfl
          rotate_left
          · simp only [Act.put, List.setIfInBounds_toArray, List.set_cons_zero, List.set_cons_succ, i64_w, i32_w]
            rfl
          refine pure_ (i := 4) (N := some 35) (v := ?_) (a' := ?_) #[true, true, true, true, true, false, false, false, false, false, false, false, false, false] rfl rfl (by kernel_rfl) (fun _ _ _ h => h) (Or.inl ⟨by rfl, ?_⟩) ?_ ?_
          rotate_left
          · intro w'
            go_simp
            with_reducible rfl
          rotate_left
          · simp only [Act.put, List.setIfInBounds_toArray, List.set_cons_zero, List.set_cons_succ, i64_w, i32_w]
            rfl
          refine pure_ (i := 5) (N := some 36) (v := ?_) (a' := ?_) #[true, true, true, true, true, true, false, false, false, false, false, false, false, false] rfl rfl (by kernel_rfl) (fun _ _ _ h => h) (Or.inl ⟨by rfl, ?_⟩) ?_ ?_
          rotate_left
          · intro w'
            go_simp
            with_reducible rfl
          rotate_left
          · simp only [Act.put, List.setIfInBounds_toArray, List.set_cons_zero, List.set_cons_succ, i64_w, i32_w]
            rfl
          refine pure_ (i := 6) (N := some 37) (v := ?_) (a' := ?_) #[true, true, true, true, true, true, true, false, false, false, false, false, false, false] rfl rfl (by kernel_rfl) (fun _ _ _ h => h) (Or.inl ⟨by rfl, ?_⟩) ?_ ?_
          rotate_left
          · intro w'
            go_simp
            with_reducible rfl
          rotate_left
          · simp only [Act.put, List.setIfInBounds_toArray, List.set_cons_zero, List.set_cons_succ, i64_w, i32_w]
            rfl
          refine pure_ (i := 8) (N := some 39) (v := ?_) (a' := ?_) #[true, true, true, true, true, true, true, false, true, false, false, false, false, false] rfl rfl (by kernel_rfl) (fun _ _ _ h => h) (Or.inl ⟨by rfl, ?_⟩) ?_ ?_
          rotate_left
          · intro w'
            go_simp
            with_reducible rfl
          rotate_left
          · simp only [Act.put, List.setIfInBounds_toArray, List.set_cons_zero, List.set_cons_succ, i64_w, i32_w]
            rfl
          refine pure_ (i := 9) (N := some 40) (v := ?_) (a' := ?_) #[true, true, true, true, true, true, true, false, true, true, false, false, false, false] rfl rfl (by kernel_rfl) (fun _ _ _ h => h) (Or.inl ⟨by rfl, ?_⟩) ?_ ?_
          rotate_left
          · intro w'
            go_simp
            with_reducible rfl
          rotate_left
          · simp only [Act.put, List.setIfInBounds_toArray, List.set_cons_zero, List.set_cons_succ, i64_w, i32_w]
            rfl
          refine pure_ (i := 10) (N := some 41) (v := ?_) (a' := ?_) #[true, true, true, true, true, true, true, false, true, true, true, false, false, false] rfl rfl (by kernel_rfl) (fun _ _ _ h => h) (Or.inl ⟨by rfl, ?_⟩) ?_ ?_
          rotate_left
          · intro w'
            go_simp
            with_reducible rfl
          rotate_left
          · simp only [Act.put, List.setIfInBounds_toArray, List.set_cons_zero, List.set_cons_succ, i64_w, i32_w]
            rfl
          refine take_ (i := 7) (N := some 38) (v := ?_) (a' := ?_) #[true, true, true, true, true, true, true, true, true, true, true, false, false, false] rfl rfl (by kernel_rfl) (fun _ _ _ h => h) (Or.inl ⟨by rfl, ?_⟩) hHeld ?_ ?_
          rotate_left
          · intro w' s0
            go_simp
            with_reducible rfl
          rotate_left
          · simp only [Act.put, List.setIfInBounds_toArray, List.set_cons_zero, List.set_cons_succ, i64_w, i32_w]
            rfl
          refine pure_ (i := 11) (N := some 42) (v := ?_) (a' := ?_) #[true, true, true, true, true, true, true, true, true, true, true, true, false, false] rfl rfl (by kernel_rfl) (fun _ _ _ h => h) (Or.inl ⟨by rfl, ?_⟩) ?_ ?_
          rotate_left
          · intro w'
            go_simp
            with_reducible rfl
          rotate_left
          · simp only [Act.put, List.setIfInBounds_toArray, List.set_cons_zero, List.set_cons_succ, i64_w, i32_w]
            rfl
          refine pure_ (i := 12) (N := some 43) (v := ?_) (a' := ?_) #[true, true, true, true, true, true, true, true, true, true, true, true, true, false] rfl rfl (by kernel_rfl) (fun _ _ _ h => h) (Or.inl ⟨by rfl, ?_⟩) ?_ ?_
          rotate_left
          · intro w'
            go_simp
            with_reducible rfl
          rotate_left
          · simp only [Act.put, List.setIfInBounds_toArray, List.set_cons_zero, List.set_cons_succ, i64_w, i32_w]
            rfl
          refine last_ (i := 13) (N := none) #[true, true, true, true, true, true, true, true, true, true, true, true, true, true] rfl rfl (by kernel_rfl) (by decide) (fun K hK => ?_)
          refine skip_ (w1 := ?_) (by rfl) rfl ?_ ?_
          rotate_left
          · go_simp
            rfl
          refine hK.out _ _ ?_
          clear hK K
          refine done_ (by kernel_rfl) ?_
          obtain ⟨W1, hW⟩ : ∃ W1, (wr.setCell { block := g, off := q } (Value.int IntKind.u8 (Go.bits BinOp.xor IntKind.u8 (el X q) (IntKind.u8.wrap (2 ^ r))))).drew = W1 := ⟨_, rfl⟩
          rw [hW]
          obtain ⟨A1, O1⟩ := step_byt hA q _ i6 hW
          clear hW w1 w2 c0 f0
          go_wp2
          go_roundw
          case rel =>
            refine ⟨k + 1, by omega, by go_num, ?_, Lib.hid (hbw.out.trans (O1.below (by rw [HG.out]; exact Nat.le_refl _)))⟩
            rw [HF.out, HX.out, HA1.out, flip1, HQ.out, HR.out]
            exact A1
          case measure => simp [intOf]; omega
        · have HF := Lib.hid (flip_no Z bit p k (by omega))
          have i8 : ¬ (A : Int) < 8 * n := by omega
          have HLh := Lib.hid HL; have HL0h := Lib.hid HL0; have HA1 := Lib.hid hA1
          clear hp HL HL0 hA1 hin
          go_wp2
          go_roundw
          case rel => exact ⟨k + 1, by omega, by go_num, by rw [HF.out, HX.out]; exact hA, hbw⟩
          case measure => simp [intOf]; omega
    · obtain rfl : k = 16 := by omega
      have kd := byt_string hA n C (by omega)
      have HLh := Lib.hid HL; have HL0h := Lib.hid HL0
      clear HL HL0 hk hlt
      go_wp2
      go_ret
      exact ⟨ret_str (by rw [HZ.out, HX.out]), hbw.out⟩
#print axioms flipped_any
end Go.Proofs.YtdgejkiackeieaaDoor
