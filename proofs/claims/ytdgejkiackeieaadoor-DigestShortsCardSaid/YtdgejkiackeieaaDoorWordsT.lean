/- The contract of digest's words: the sixteen words of a block of at most 64 bytes. -/
import Derived.Test.YtdgejkiackeieaaDoorMixT
import Derived.Laws.Rows
import Derived.Laws.Tables
import Derived.Laws.CopyOwn
set_option linter.unusedVariables false
set_option linter.unusedSimpArgs false
namespace Go.Proofs.YtdgejkiackeieaaDoor
open Go.RowKit Go.Proofs.YtdgejkiackeieaaDoorW.PrintLast
def byt (s : ByteArray) (k : Nat) : Nat := (s.data.toList.getD k 0).toNat
theorem byt_eq (s : ByteArray) (k : Nat) (h : k < s.size) : s[k].toNat = byt s k := by
  have : s[k] = s.data.toList.getD k 0 := by simp [List.getD, h]; rfl
  unfold byt; rw [← this]
theorem byt_lt (s : ByteArray) (k : Nat) : byt s k < 256 := UInt8.toNat_lt _
def wstep (X : List Int) (k c : Nat) : List Int := X.set (k / 4) (Go.bits .or .u32 (el X (k / 4)) (IntKind.u32.wrap ((c : Int) * 2 ^ (8 * (k % 4)))))
def wordsK (s : ByteArray) : Nat → List Int
  | 0 => List.replicate 16 0
  | k + 1 => wstep (wordsK s k) k (byt s k)
theorem wordsK_length (s : ByteArray) (k : Nat) : (wordsK s k).length = 16 := by
  induction k with
  | zero => rfl
  | succ k ih => simp [wordsK, wstep, ih]
theorem ones_u32 (X : List Int) : (X.map (Value.int .u32)).toArray.all (·.oneCell') = true := by
  rw [Array.all_eq_true']
  intro v hv
  simp at hv
  obtain ⟨x, _, rfl⟩ := hv
  rfl
theorem wrap_q (k : Nat) (h : k < 64) : wrap64 ((k : Int) / 4) = ((k / 4 : Nat) : Int) := by unfold wrap64; omega
theorem wrap_r (k : Nat) (h : k < 64) : wrap64 (8 * (k : Int).tmod 4) = ((8 * (k % 4) : Nat) : Int) := by rw [Int.tmod_eq_emod_of_nonneg (by omega)]; unfold wrap64; omega
theorem wrap_c (c : Nat) (h : c < 256) : IntKind.u32.wrap (c : Int) = c := by rw [IntKind.wrap_u32]; omega
set_option maxHeartbeats 8000000 in
set_option maxRecDepth 1000000 in
theorem words_any (s : ByteArray) (hs : s.size ≤ 64) (w : World) :
    Calls Tryd.prog 126 #[.string s] w fun e w' => e = .returned (.agg ((wordsK s s.size).map (Value.int .u32)).toArray) ∧ Below w.heap.size w w' := by
  go_enter Tryd.func126, Tryd.ntmps126
  go_wp2
  go_loopw [4, 7] (fun _ i wr => ∃ k : Nat, k ≤ s.size ∧ i = .int .i64 k ∧ Arr .u32 126 wr w.heap.size (List.replicate 16 0) ∧ Arr .u32 126 wr (w.heap.size + 1) (wordsK s k) ∧ Below w.heap.size w wr) (fun _ i _ => s.size - (intOf i).toNat)
  case atStart =>
    refine ⟨0, by omega, rfl, ?_, ?_, ((Below.refl _ w).alloc (Nat.le_refl _) _).alloc (by simp) _⟩
    · exact heap_alloc2_old w _ _
    · exact heap_alloc2_new w _ _
  case round =>
    obtain ⟨k, hk, rfl, hR, hA, hbw⟩ := hrel
    have HL := wordsK_length s k
    obtain ⟨X, hX⟩ : ∃ X, wordsK s k = X := ⟨_, rfl⟩
    rw [hX] at hA HL
    have HX := Lib.hid hX; clear hX
    have hsz : w.heap.size + 1 < wr.heap.size := (Array.getElem?_eq_some_iff.1 hA).1
    by_cases hlt : k < s.size
    · obtain ⟨c, hc⟩ : ∃ c, byt s k = c := ⟨_, rfl⟩
      have hcl := byt_lt s k
      have hb := byt_eq s k hlt
      rw [hc] at hb hcl
      obtain ⟨q, hq⟩ : ∃ q, k / 4 = q := ⟨_, rfl⟩
      obtain ⟨r, hr⟩ : ∃ r, 8 * (k % 4) = r := ⟨_, rfl⟩
      have hq16 : q < 16 := by omega
      have i1 : (q : Int) < 16 := by omega
      have i4 : (0 : Int) ≤ r := by omega
      have i5 : (r : Int) ≤ 32 := by omega
      have i6 : q < X.length := by omega
      have i7 : r ≤ 32 := by omega
      have w1 := wrap_q k (by omega)
      have w2 := wrap_r k (by omega)
      have w3 := wrap_c c hcl
      rw [hq] at w1
      rw [hr] at w2
      have HC := Lib.hid hc
      have HQ := Lib.hid hq
      have HR := Lib.hid hr
      clear hc hq hr
      have c0 := hA.cell q i6
      have f0 := hA.frozen q
      go_wp2_with fail
      refine start_ (n := 15) (S := fun w' => w'.cell? ⟨w.heap.size + 1, q, none⟩ = some (.int .u32 (el X q))) (ds := [14]) #[false, false, false, false, false, false, false, false, false, false, false, false, false, false, false] (by kernel_rfl) rfl rfl (c0) (fun hHeld => ?_)
      refine pure_ (i := 0) (N := some 10) (v := ?_) (a' := ?_) #[true, false, false, false, false, false, false, false, false, false, false, false, false, false, false] rfl rfl (by kernel_rfl) (fun _ _ _ h => h) (Or.inl ⟨by rfl, ?_⟩) ?_ ?_
      rotate_left
      · intro w'
        go_simp
        with_reducible rfl
      rotate_left
      · simp only [Act.put, List.setIfInBounds_toArray, List.set_cons_zero, List.set_cons_succ, i64_w, i32_w]
        rfl
      refine pure_ (i := 1) (N := some 11) (v := ?_) (a' := ?_) #[true, true, false, false, false, false, false, false, false, false, false, false, false, false, false] rfl rfl (by kernel_rfl) (fun _ _ _ h => h) (Or.inl ⟨by rfl, ?_⟩) ?_ ?_
      rotate_left
      · intro w'
        go_simp
        with_reducible rfl
      rotate_left
      · simp only [Act.put, List.setIfInBounds_toArray, List.set_cons_zero, List.set_cons_succ, i64_w, i32_w]
        rfl
      refine pure_ (i := 2) (N := some 12) (v := ?_) (a' := ?_) #[true, true, true, false, false, false, false, false, false, false, false, false, false, false, false] rfl rfl (by kernel_rfl) (fun _ _ _ h => h) (Or.inl ⟨by rfl, ?_⟩) ?_ ?_
      rotate_left
      · intro w'
        go_simp
        with_reducible rfl
      rotate_left
      · simp only [Act.put, List.setIfInBounds_toArray, List.set_cons_zero, List.set_cons_succ, i64_w, i32_w]
        rfl
      refine pure_ (i := 4) (N := some 14) (v := ?_) (a' := ?_) #[true, true, true, false, true, false, false, false, false, false, false, false, false, false, false] rfl rfl (by kernel_rfl) (fun _ _ _ h => h) (Or.inl ⟨by rfl, ?_⟩) ?_ ?_
      rotate_left
      · intro w'
        go_simp
        with_reducible rfl
      rotate_left
      · simp only [Act.put, List.setIfInBounds_toArray, List.set_cons_zero, List.set_cons_succ, i64_w, i32_w]
        rfl
      refine pure_ (i := 5) (N := some 15) (v := ?_) (a' := ?_) #[true, true, true, false, true, true, false, false, false, false, false, false, false, false, false] rfl rfl (by kernel_rfl) (fun _ _ _ h => h) (Or.inl ⟨by rfl, ?_⟩) ?_ ?_
      rotate_left
      · intro w'
        go_simp
        with_reducible rfl
      rotate_left
      · simp only [Act.put, List.setIfInBounds_toArray, List.set_cons_zero, List.set_cons_succ, i64_w, i32_w]
        rfl
      refine pure_ (i := 8) (N := some 18) (v := ?_) (a' := ?_) #[true, true, true, false, true, true, false, false, true, false, false, false, false, false, false] rfl rfl (by kernel_rfl) (fun _ _ _ h => h) (Or.inl ⟨by rfl, ?_⟩) ?_ ?_
      rotate_left
      · intro w'
        go_simp
        with_reducible rfl
      rotate_left
      · simp only [Act.put, List.setIfInBounds_toArray, List.set_cons_zero, List.set_cons_succ, i64_w, i32_w]
        rfl
      refine pure_ (i := 9) (N := some 19) (v := ?_) (a' := ?_) #[true, true, true, false, true, true, false, false, true, true, false, false, false, false, false] rfl rfl (by kernel_rfl) (fun _ _ _ h => h) (Or.inl ⟨by rfl, ?_⟩) ?_ ?_
      rotate_left
      · intro w'
        go_simp
        with_reducible rfl
      rotate_left
      · simp only [Act.put, List.setIfInBounds_toArray, List.set_cons_zero, List.set_cons_succ, i64_w, i32_w]
        rfl
      refine pure_ (i := 10) (N := some 20) (v := ?_) (a' := ?_) #[true, true, true, false, true, true, false, false, true, true, true, false, false, false, false] rfl rfl (by kernel_rfl) (fun _ _ _ h => h) (Or.inl ⟨by rfl, ?_⟩) ?_ ?_
      rotate_left
      · intro w'
        go_simp
        with_reducible rfl
      rotate_left
      · simp only [Act.put, List.setIfInBounds_toArray, List.set_cons_zero, List.set_cons_succ, i64_w, i32_w]
        rfl
      refine take_ (i := 3) (N := some 13) (v := ?_) (a' := ?_) #[true, true, true, true, true, true, false, false, true, true, true, false, false, false, false] rfl rfl (by kernel_rfl) (fun _ _ _ h => h) (Or.inl ⟨by rfl, ?_⟩) hHeld ?_ ?_
      rotate_left
      · intro w' s0
        go_simp
        with_reducible rfl
      rotate_left
      · simp only [Act.put, List.setIfInBounds_toArray, List.set_cons_zero, List.set_cons_succ, i64_w, i32_w]
        rfl
      refine take_ (i := 6) (N := some 16) (v := ?_) (a' := ?_) #[true, true, true, true, true, true, true, false, true, true, true, false, false, false, false] rfl rfl (by kernel_rfl) (fun _ _ _ h => h) (Or.inl ⟨by rfl, ?_⟩) hHeld ?_ ?_
      rotate_left
      · intro w' s0
        go_simp
        with_reducible rfl
      rotate_left
      · simp only [Act.put, List.setIfInBounds_toArray, List.set_cons_zero, List.set_cons_succ, i64_w, i32_w]
        rfl
      refine pure_ (i := 7) (N := some 17) (v := ?_) (a' := ?_) #[true, true, true, true, true, true, true, true, true, true, true, false, false, false, false] rfl rfl (by kernel_rfl) (fun _ _ _ h => h) (Or.inl ⟨by rfl, ?_⟩) ?_ ?_
      rotate_left
      · intro w'
        go_simp
        with_reducible rfl
      rotate_left
      · simp only [Act.put, List.setIfInBounds_toArray, List.set_cons_zero, List.set_cons_succ, i64_w, i32_w]
        rfl
      refine pure_ (i := 11) (N := some 21) (v := ?_) (a' := ?_) #[true, true, true, true, true, true, true, true, true, true, true, true, false, false, false] rfl rfl (by kernel_rfl) (fun _ _ _ h => h) (Or.inl ⟨by rfl, ?_⟩) ?_ ?_
      rotate_left
      · intro w'
        go_simp
        with_reducible rfl
      rotate_left
      · simp only [Act.put, List.setIfInBounds_toArray, List.set_cons_zero, List.set_cons_succ, i64_w, i32_w]
        rfl
      refine pure_ (i := 12) (N := some 22) (v := ?_) (a' := ?_) #[true, true, true, true, true, true, true, true, true, true, true, true, true, false, false] rfl rfl (by kernel_rfl) (fun _ _ _ h => h) (Or.inl ⟨by rfl, ?_⟩) ?_ ?_
      rotate_left
      · intro w'
        go_simp
        with_reducible rfl
      rotate_left
      · simp only [Act.put, List.setIfInBounds_toArray, List.set_cons_zero, List.set_cons_succ, i64_w, i32_w]
        rfl
      refine pure_ (i := 13) (N := some 23) (v := ?_) (a' := ?_) #[true, true, true, true, true, true, true, true, true, true, true, true, true, true, false] rfl rfl (by kernel_rfl) (fun _ _ _ h => h) (Or.inl ⟨by rfl, ?_⟩) ?_ ?_
      rotate_left
      · intro w'
        go_simp
        with_reducible rfl
      rotate_left
      · simp only [Act.put, List.setIfInBounds_toArray, List.set_cons_zero, List.set_cons_succ, i64_w, i32_w]
        rfl
      refine last_ (i := 14) (N := none) #[true, true, true, true, true, true, true, true, true, true, true, true, true, true, true] rfl rfl (by kernel_rfl) (by decide) (fun K hK => ?_)
      refine skip_ (w1 := ?_) (by rfl) rfl ?_ ?_
      rotate_left
      · go_simp
        rfl
      refine hK.out _ _ ?_
      clear hK K
      refine done_ (by kernel_rfl) ?_
      obtain ⟨W1, hW⟩ : ∃ W1, (wr.setCell { block := w.heap.size + 1, off := q } (Value.int IntKind.u32 (Go.bits BinOp.or IntKind.u32 (el X q) (IntKind.u32.wrap (↑c * 2 ^ r))))).drew = W1 := ⟨_, rfl⟩
      rw [hW]
      obtain ⟨A1, O1⟩ := step_arr hA q _ hW
      have R1 : Arr .u32 126 W1 w.heap.size (List.replicate 16 0) := (O1.block _ (by omega)).trans hR
      clear hW w1 w2 w3 c0 f0
      go_wp2
      go_roundw
      case rel =>
        refine ⟨k + 1, by omega, by go_num, R1, ?_, hbw.trans (O1.below (by omega))⟩
        rw [wordsK, HX.out, HC.out, wstep, HQ.out, HR.out]
        exact A1
      case measure => simp [intOf]; omega
    · obtain rfl : k = s.size := by omega
      have hi : (Tryd.prog.info? 126).map (·.size) = some ((X.map (Value.int .u32)).toArray).size := by
        rw [show ((X.map (Value.int .u32)).toArray).size = 16 by simp [HL]]; kernel_rfl
      have hl : (List.replicate 16 (0 : Int)).length = X.length := by simp [HL]
      have h1 := ones_u32 X
      have hl' : ((List.replicate 16 (0 : Int)).map (Value.int .u32)).toArray.size = (X.map (Value.int .u32)).toArray.size := by simp only [List.size_toArray, List.length_map]; exact hl
      clear hl HL hlt hk
      go_wp2_with (first | refine wpList_load_row rfl 126 _ rfl (w.heap.size + 1) rfl 126 _ (0, 0) _ hA Tryd.underlying126 rfl hi ?_ | refine wpList_store_row rfl 126 _ _ rfl w.heap.size _ rfl rfl 126 _ hR hi hl' h1 ?_)
      have hF := setRow_heap wr w.heap.size _ (X.map (Value.int .u32)).toArray 126 (0, 0) hR
      refine bodyPost_ret (results_cell_row rfl _ _ w.heap.size 126 _ (0, 0) _ rfl hF Tryd.underlying126 rfl hi) rfl ?_
      rw [HX.out]
      exact ⟨rfl, below_setRow hbw (Nat.le_refl _) _⟩
#print axioms words_any
end Go.Proofs.YtdgejkiackeieaaDoor
