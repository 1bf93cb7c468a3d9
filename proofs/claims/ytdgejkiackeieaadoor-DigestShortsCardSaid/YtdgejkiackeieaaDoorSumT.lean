/- The contract of digest's Sum. -/
import Derived.Test.YtdgejkiackeieaaDoorShA
import Derived.Test.YtdgejkiackeieaaDoorCmpT
import Derived.Test.YtdgejkiackeieaaDoorBld
import Derived.BigCall
set_option linter.unusedVariables false
set_option linter.unusedSimpArgs false
namespace Go.Proofs.YtdgejkiackeieaaDoor
open Go.RowKit Go.Proofs.YtdgejkiackeieaaDoorW.PrintLast
theorem compress_list (h : List Int) (hh : h.length = 8) (s : ByteArray) (hs : s.size ≤ 64) (n : Nat) (hn : n < 4294967296) (last : Bool) (w : World) (hG : DigOk w) (h2 : 2 ≤ w.heap.size) :
    Calls Tryd.prog 96 #[.agg (h.map (Value.int .u32)).toArray, .string s, .int .i64 n, .bool last] w fun e w' => e = .returned (.agg ((compressI h s n last).map (Value.int .u32)).toArray) ∧ Below w.heap.size w w' := by
  match h, hh with
  | [a0, a1, a2, a3, a4, a5, a6, a7], _ => exact compress_any a0 a1 a2 a3 a4 a5 a6 a7 s hs n hn last w hG h2
theorem compressI_length (h : List Int) (s : ByteArray) (n : Nat) (last : Bool) : (compressI h s n last).length = h.length := finI_length _ _ _
def sumH : Nat → List Int → ByteArray → Nat → List Int
  | 0, h, s, e => compressI h s (e + s.size) true
  | f + 1, h, s, e => if 64 < s.size then sumH f (compressI h (s.extract 0 64) (e + 64) false) (s.extract 64 s.size) (e + 64) else compressI h s (e + s.size) true
/-- The state before the first block. -/
def sum0 : List Int := firstI.set 0 (xorI 1779033703 16842784)
def wordBytes (x : Int) : List UInt8 := [0, 1, 2, 3].map fun (i : Nat) => UInt8.ofNat (x / 2 ^ (8 * i) % 256).toNat
def sumBytes (s : ByteArray) : List UInt8 := (sumH s.size sum0 s 0).flatMap wordBytes
def strLen : Value → Nat | .string s => s.size | _ => 0
theorem info98 (h : List Int) (hh : h.length = 8) : (Tryd.prog.info? 98).map (·.size) = some ((h.map (Value.int .u32)).toArray).size := by
  rw [show ((h.map (Value.int .u32)).toArray).size = 8 by simp [hh]]; kernel_rfl
abbrev z8u : Array Value := #[Value.int .u32 0, .int .u32 0, .int .u32 0, .int .u32 0, .int .u32 0, .int .u32 0, .int .u32 0, .int .u32 0]
set_option maxRecDepth 100000 in
theorem idx_word (x0 x1 x2 x3 x4 x5 x6 x7 : Int) : ∀ j, j < 8 → ∀ w, (Instr.index 98 (.agg ([x0, x1, x2, x3, x4, x5, x6, x7].map (Value.int .u32)).toArray) (.int .i64 (j : Nat))).run Tryd.prog w = .ok (.int .u32 (el [x0, x1, x2, x3, x4, x5, x6, x7] j)) w
  | 0, _, _ => by kernel_rfl
  | 1, _, _ => by kernel_rfl
  | 2, _, _ => by kernel_rfl
  | 3, _, _ => by kernel_rfl
  | 4, _, _ => by kernel_rfl
  | 5, _, _ => by kernel_rfl
  | 6, _, _ => by kernel_rfl
  | 7, _, _ => by kernel_rfl
  | n + 8, h, _ => absurd h (by omega)
theorem idx_list (X : List Int) (hX : X.length = 8) (j : Nat) (hj : j < 8) (w : World) : (Instr.index 98 (.agg (X.map (Value.int .u32)).toArray) (.int .i64 j)).run Tryd.prog w = .ok (.int .u32 (el X j)) w := by
  match X, hX with
  | [x0, x1, x2, x3, x4, x5, x6, x7], _ => exact idx_word x0 x1 x2 x3 x4 x5 x6 x7 j hj w
theorem w64_mul8 (i p : Nat) (h : i < 100) (e : 8 * i = p) : wrap64 (8 * (i : Int)) = p := by unfold wrap64; omega
def wb (x : Int) (i : Nat) : UInt8 := UInt8.ofNat (x / 2 ^ (8 * i) % 256).toNat
theorem wb_nat (x : Int) (i : Nat) : ((wb x i).toNat : Int) = x / 2 ^ (8 * i) % 256 := by
  unfold wb
  rw [UInt8.toNat_ofNat', Nat.mod_eq_of_lt (by omega)]
  omega
def wbs (x : Int) (i : Nat) : List UInt8 := (List.range i).map (wb x)
theorem wbs_suc (x : Int) (i : Nat) : wbs x (i + 1) = wbs x i ++ [wb x i] := by simp [wbs, List.range_succ]
theorem wbs_four (x : Int) : wbs x 4 = wordBytes x := rfl
def sbs (X : List Int) (j : Nat) : List UInt8 := (X.take j).flatMap wordBytes
theorem sbs_suc (X : List Int) (j : Nat) (h : j < X.length) : sbs X (j + 1) = sbs X j ++ wordBytes (el X j) := by
  unfold sbs el
  rw [List.take_succ_eq_append_getElem h, List.flatMap_append]
  simp [h]
theorem sbs_length (X : List Int) (j : Nat) : (sbs X j).length ≤ 4 * j := by
  unfold sbs
  have : ∀ l : List Int, (l.flatMap wordBytes).length = 4 * l.length := by
    intro l
    induction l with
    | nil => rfl
    | cons x l ih => simp only [List.flatMap_cons, List.length_append, ih, List.length_cons, wordBytes, List.length_map, List.length_nil]; omega
  rw [this]
  have := List.length_take_le j X
  omega
set_option maxHeartbeats 8000000 in
set_option maxRecDepth 1000000 in
theorem sum_any (s : ByteArray) (hs : s.size ≤ 1000000) (w : World) (hG : DigOk w) (h2 : 2 ≤ w.heap.size) :
    Calls Tryd.prog 31 #[.string s] w fun e w' => e = .returned (.string ⟨(sumBytes s).toArray⟩) ∧ Below w.heap.size w w' := by
  obtain ⟨t0, fr0, hf0⟩ := hG.first
  have hi0 := info98 firstI rfl
  have ho0 := ones_u32 firstI
  go_enter Tryd.func31, Tryd.ntmps31
  have hA0 : Arr .u32 98 ((w.alloc (.cells z8u 98)).setRow w.heap.size (firstI.map (Value.int .u32)).toArray) w.heap.size firstI := setRow_heap _ _ z8u _ 98 (0, 0) (heap_alloc_new _ _)
  have c0 := hA0.cell 0 (by decide)
  have f0 := hA0.frozen 0
  go_wp2_with (first | refine wpList_load_row rfl 98 _ rfl 0 rfl t0 _ fr0 _ hf0 Tryd.underlying98 rfl hi0 ?_ | refine wpList_store_row rfl 98 _ _ rfl w.heap.size _ rfl rfl 98 _ (heap_alloc_new _ _) hi0 rfl ho0 ?_)
  obtain ⟨R, hR⟩ : ∃ R, sumH s.size sum0 s 0 = R := ⟨_, rfl⟩
  have HR := Asd.mk hR
  go_loopw [0, 4] (fun v0 v4 wr => ∃ (f e : Nat) (h : List Int) (t : ByteArray), v0 = .string t ∧ v4 = .int .i64 e ∧ e + t.size = s.size ∧ t.size ≤ f ∧ h.length = 8 ∧ Arr .u32 98 wr w.heap.size h ∧ Asd (sumH f h t e = R) ∧ DigOk wr ∧ Below w.heap.size w wr ∧ w.heap.size < wr.heap.size) (fun v0 _ _ => strLen v0)
  case atStart =>
    refine ⟨s.size, 0, sum0, s, rfl, rfl, by omega, Nat.le_refl _, rfl, ?_, HR, ?_, ?_, ?_⟩
    · exact hA0.set 0 _
    · exact hG.below' (((below_setRow ((Below.refl w.heap.size w).alloc (Nat.le_refl _) _) (Nat.le_refl _) _)).setCell (p := ⟨w.heap.size, 0, none⟩) (Nat.le_refl _) _) h2
    · exact ((below_setRow ((Below.refl w.heap.size w).alloc (Nat.le_refl _) _) (Nat.le_refl _) _)).setCell (p := ⟨w.heap.size, 0, none⟩) (Nat.le_refl _) _
    · have := (Array.getElem?_eq_some_iff.1 (hA0.set 0 (xorI (el firstI 0) 16842784))).1
      exact this
  case round =>
    obtain ⟨f, e, h, t, rfl, rfl, het, hft, hhl, hA, HF, hD, hbw, hgl⟩ := hrel
    clear hA0 c0 f0 hf0 hi0 ho0 hR
    by_cases hlt : 64 < t.size
    · obtain ⟨f, rfl⟩ : ∃ f', f = f' + 1 := ⟨f - 1, by omega⟩
      have hle : (64 : Int) ≤ t.size := by omega
      have hlI : (64 : Int) < t.size := by omega
      have hn64 : e + 64 < 4294967296 := by omega
      have hx64 : (t.extract 0 64).size ≤ 64 := by simp [ByteArray.size_extract]; omega
      have hE : ((e : Int) + 64) = ((e + 64 : Nat) : Int) := by omega
      have HE := Asd.mk hE
      clear hE
      have HN := Asd.mk (show compressI h (t.extract 0 64) (e + 64) false = compressI h (t.extract 0 64) (e + 64) false from rfl)
      have hcl : (compressI h (t.extract 0 64) (e + 64) false).length = 8 := by rw [compressI_length]; exact hhl
      have hsz98 : ((h.map (Value.int .u32)).toArray).size = (((compressI h (t.extract 0 64) (e + 64) false).map (Value.int .u32)).toArray).size := by simp [hhl, hcl]
      have hi98 := info98 h hhl
      have hDG : DigOk wr.drew := ⟨hD.first, hD.orders⟩
      have h2w : 2 ≤ wr.drew.heap.size := Nat.le_trans h2 (Nat.le_of_lt hgl)
      have hgw : w.heap.size < wr.drew.heap.size := hgl
      have het2 : (t.extract 64 t.size).size = t.size - 64 := by simp [ByteArray.size_extract]
      go_wp2_with fail
      refine start_ (n := 6) (S := fun w' => True) (ds := []) #[false, false, false, false, false, false] (by kernel_rfl) rfl rfl trivial (fun hHeld => ?_)
      refine pure_ (i := 1) (N := some 20) (v := ?_) (a' := ?_) #[false, true, false, false, false, false] rfl rfl (by kernel_rfl) (fun _ _ _ h => h) (Or.inl ⟨by rfl, ?_⟩) ?_ ?_
      rotate_left
      · intro w'
        go_simp
        with_reducible rfl
      rotate_left
      · simp only [Act.put, List.setIfInBounds_toArray, List.set_cons_zero, List.set_cons_succ, i64_w, i32_w]
        rfl
      refine pure_ (i := 2) (N := some 21) (v := ?_) (a' := ?_) #[false, true, true, false, false, false] rfl rfl (by kernel_rfl) (fun _ _ _ h => h) (Or.inl ⟨by rfl, ?_⟩) ?_ ?_
      rotate_left
      · intro w'
        go_simp
        with_reducible rfl
      rotate_left
      · simp only [Act.put, List.setIfInBounds_toArray, List.set_cons_zero, List.set_cons_succ, i64_w, i32_w]
        rfl
      refine pure_ (i := 3) (N := some 22) (v := ?_) (a' := ?_) #[false, true, true, true, false, false] rfl rfl (by kernel_rfl) (fun _ _ _ h => h) (Or.inl ⟨by rfl, ?_⟩) ?_ ?_
      rotate_left
      · intro w'
        go_simp
        with_reducible rfl
      rotate_left
      · simp only [Act.put, List.setIfInBounds_toArray, List.set_cons_zero, List.set_cons_succ, i64_w, i32_w]
        rfl
      refine one_ (i := 0) (N := some 19) #[true, true, true, true, false, false] rfl rfl (by kernel_rfl) (by decide) (fun K hK => ?_)
      rw [if_pos (by rfl)]
      refine wp_load_row 98 _ rfl w.heap.size rfl 98 _ (0, 0) _ hA Tryd.underlying98 rfl hi98 ?_
      refine hK.out _ _ trivial (fun hHeld => ?_)
      clear hK K
      refine norm_ (a' := ?_) ?_ ?_
      rotate_left
      · show Act.put _ (some 19) _ = _
        simp only [Act.put, List.setIfInBounds_toArray, List.set_cons_zero, List.set_cons_succ, i64_w, i32_w]
        rfl
      refine one_ (i := 4) (N := some 23) #[true, true, true, true, true, false] rfl rfl (by kernel_rfl) (by decide) (fun K hK => ?_)
      refine goes_ Tryd.func96 (by kernel_rfl) rfl #[.agg (h.map (Value.int .u32)).toArray, .string (t.extract 0 64), .int .i64 ((e : Int) + 64), .bool false] (by rfl) rfl rfl (by simp only [List.map_toArray, List.map_cons, List.map_nil]; rfl) ?_
      rw [HE.out]
      with_reducible refine (compress_list h hhl (t.extract 0 64) hx64 (e + 64) hn64 false wr.drew hDG h2w).mono ?_
      rintro e w5 ⟨rfl, hb5⟩
      refine ⟨_, rfl, ?_⟩
      refine hK.out _ _ trivial (fun hHeld => ?_)
      clear hK K
      refine norm_ (a' := ?_) ?_ ?_
      rotate_left
      · show Act.put _ (some 23) _ = _
        simp only [Act.put, List.setIfInBounds_toArray, List.set_cons_zero, List.set_cons_succ, i64_w, i32_w]
        rfl
      refine one_ (i := 5) (N := none) #[true, true, true, true, true, true] rfl rfl (by kernel_rfl) (by decide) (fun K hK => ?_)
      rw [if_pos (by rfl)]
      refine wp_store_row 98 _ _ rfl w.heap.size _ rfl rfl 98 _ ((hb5.block w.heap.size hgw).trans hA) (info98 _ hcl) hsz98 (ones_u32 _) ?_
      refine hK.out _ _ trivial (fun hHeld => ?_)
      clear hK K
      refine done_ (by kernel_rfl) ?_
      have hbx : Below w.heap.size wr w5 := ((Below.refl w.heap.size wr).drew).trans (hb5.mono (Nat.le_of_lt hgw))
      have hA5 : Arr .u32 98 w5 w.heap.size h := (hb5.block w.heap.size hgw).trans hA
      have hA6 : Arr .u32 98 (w5.setRow w.heap.size ((compressI h (t.extract 0 64) (e + 64) false).map (Value.int .u32)).toArray) w.heap.size (compressI h (t.extract 0 64) (e + 64) false) := setRow_heap w5 w.heap.size _ _ 98 (0, 0) hA5
      obtain ⟨w6, hw6⟩ : ∃ w6, w5.setRow w.heap.size ((compressI h (t.extract 0 64) (e + 64) false).map (Value.int .u32)).toArray = w6 := ⟨_, rfl⟩
      have hb6 : Below w.heap.size w w6 := by rw [← hw6]; exact below_setRow (hbw.trans hbx) (Nat.le_refl _) _
      have hD6 : DigOk w6 := by rw [← hw6]; exact hD.below' (below_setRow hbx (Nat.le_refl _) _) h2
      have hs6 : w.heap.size < w6.heap.size := by rw [← hw6, size_setRow]; exact Nat.lt_of_lt_of_le hgw hb5.size
      rw [hw6] at hA6 ⊢
      clear hw6 hb5 hA5 hbx
      go_wp2
      go_roundw
      case rel =>
        refine ⟨f, e + 64, _, t.extract 64 t.size, rfl, by rw [← HE.out], by rw [het2]; omega, by rw [het2]; omega, hcl, hA6, ⟨?_⟩, hD6, hb6, hs6⟩
        have hq := HF.out
        rw [sumH, if_pos hlt] at hq
        exact hq
      case measure => simp [strLen, ByteArray.size_extract]; omega
    · have hnl : ¬ (64 : Int) < t.size := by omega
      go_wp2_with (refine wpList_load_row rfl 98 _ rfl w.heap.size rfl 98 _ (0, 0) _ hA Tryd.underlying98 rfl (info98 h hhl) ?_)
      have hq : compressI h t (e + t.size) true = R := by
        have hq := HF.out
        cases f with
        | zero => exact hq
        | succ f => rw [sumH, if_neg hlt] at hq; exact hq
      have HQ := Asd.mk hq
      have hRL : R.length = 8 := by rw [← hq, compressI_length]; exact hhl
      clear hq
      have ht64 : t.size ≤ 64 := by omega
      have hen : e + t.size < 4294967296 := by omega
      rw [show ((e : Int) + (t.size : Int)) = ((e + t.size : Nat) : Int) by omega]
      refine (compress_list h hhl t ht64 (e + t.size) hen true wr hD (Nat.le_trans h2 (Nat.le_of_lt hgl))).mono ?_
      rintro e' w5 ⟨rfl, hb5⟩
      rw [HQ.out]
      have hA5 : Arr .u32 98 w5 w.heap.size h := (hb5.block w.heap.size hgl).trans hA
      have hsz98 : ((h.map (Value.int .u32)).toArray).size = ((R.map (Value.int .u32)).toArray).size := by simp [hhl, hRL]
      have hA6 : Arr .u32 98 (w5.setRow w.heap.size (R.map (Value.int .u32)).toArray) w.heap.size R := setRow_heap w5 w.heap.size _ _ 98 (0, 0) hA5
      have hb6 : Below w.heap.size w (w5.setRow w.heap.size (R.map (Value.int .u32)).toArray) := below_setRow (hbw.trans (hb5.mono (Nat.le_of_lt hgl))) (Nat.le_refl _) _
      have hs6 : w.heap.size < (w5.setRow w.heap.size (R.map (Value.int .u32)).toArray).heap.size := by rw [size_setRow]; exact Nat.lt_of_lt_of_le hgl hb5.size
      have hi98 := info98 R hRL
      have ho98 := ones_u32 R
      have hl6 : ((w5.setRow w.heap.size (R.map (Value.int .u32)).toArray).alloc (.cells #[.pointer none, .slice none 0 0] 91)).heap[w.heap.size]? = some (.cells (R.map (Value.int .u32)).toArray 98 (0, 0)) := (Lib.alloc_old _ _ w.heap.size hs6).trans hA6
      have hne3 : w5.heap.size ≠ w.heap.size := by have := hb5.size; omega
      go_wp2_with (first | refine wpList_store_row rfl 98 _ _ rfl w.heap.size _ rfl rfl 98 _ hA5 hi98 hsz98 ho98 ?_ | refine wpList_load_row rfl 98 _ rfl w.heap.size rfl 98 _ (0, 0) _ hl6 Tryd.underlying98 rfl hi98 ?_)
      obtain ⟨w7, hw7⟩ : ∃ w7, w5.setRow w.heap.size (R.map (Value.int .u32)).toArray = w7 := ⟨_, rfl⟩
      have hsz7 : w7.heap.size = w5.heap.size := by rw [← hw7, size_setRow]
      rw [hw7] at hb6 hs6 ⊢
      obtain ⟨gb, hgb⟩ : ∃ gb, w5.heap.size = gb := ⟨_, rfl⟩
      rw [hgb] at hsz7 ⊢
      have hbld := Lib.fresh_isBuilder 91 5 w7
      rw [hsz7] at hbld
      have hgb3 : w.heap.size < gb := by rw [← hsz7]; exact hs6
      have hbl7 : Below w.heap.size w (w7.alloc (.cells #[.pointer none, .slice none 0 0] 91)) := hb6.alloc (Nat.le_of_lt hs6) _
      have hgs : gb ≤ (w7.alloc (.cells #[.pointer none, .slice none 0 0] 91)).heap.size := by rw [World.size_alloc]; omega
      clear hl6 hA6 hA5 hb5 hw7 hgb hi98 ho98 hsz98 hne3 hb6 hs6
      obtain ⟨w8, hw8⟩ : ∃ w8, w7.alloc (.cells #[.pointer none, .slice none 0 0] 91) = w8 := ⟨_, rfl⟩
      have hbld' : Lib.IsBuilderF 91 5 gb gb [] w8 := by rw [← hw8]; exact Lib.IsBuilderF.of hbld
      rw [hw8] at hbl7 hgs ⊢
      clear hw8 hbld hsz7
      go_loopw [7, 8, 34, 37] (fun _ _ v34 _ wr => ∃ j : Nat, j ≤ 8 ∧ v34 = .int .i64 j ∧ Lib.IsBuilderF 91 5 gb gb (Lib.byteCells (sbs R j)) wr ∧ Below w.heap.size w wr ∧ gb ≤ wr.heap.size) (fun _ _ v34 _ _ => 8 - (intOf v34).toNat)
      case atStart => exact ⟨0, by omega, rfl, hbld', hbl7, hgs⟩
      case round =>
        obtain ⟨j, hj8, rfl, hI, hbj, hgj⟩ := hrel
        clear hbw hgl hA hD
        by_cases hlj : j < 8
        · obtain ⟨wo, hwo⟩ : ∃ wo, wr = wo := ⟨_, rfl⟩
          rw [hwo] at hI hbj hgj ⊢
          clear hwo
          have hljI : (j : Int) < 8 := by omega
          obtain ⟨x, hx⟩ : ∃ x, el R j = x := ⟨_, rfl⟩
          have hix := fun w => idx_list R hRL j hlj w
          rw [hx] at hix
          have HX := Asd.mk hx
          clear hx
          go_wp2_with fail
          go_loopw [8, 37] (fun _ vi wr => ∃ i : Nat, i ≤ 4 ∧ vi = .int .i64 i ∧ Lib.IsBuilderF 91 5 gb gb (Lib.byteCells (sbs R j ++ wbs x i)) wr ∧ Below w.heap.size w wr ∧ gb ≤ wr.heap.size) (fun _ vi _ => 4 - (intOf vi).toNat)
          case atStart => exact ⟨0, by omega, rfl, by simpa [wbs] using hI, hbj, hgj⟩
          case round =>
            obtain ⟨i, hi4, rfl, hI2, hbi, hgi⟩ := hrel
            clear hI hbj hgj
            by_cases hli : i < 4
            · have HL := sbs_length R j
              have HW : (wbs x i).length = i := by simp [wbs]
              have hlen : (Lib.byteCells (sbs R j ++ wbs x i)).length + 1 ≤ 140737488355328 := by rw [Lib.byteCells_length, List.length_append, HW]; omega
              clear HL HW
              have HW := Asd.mk (wb_nat x i)
              have HS1 := Asd.mk (wbs_suc x i)
              go_wp2_with fail
              refine (writeByte_any gb gb _ _ _ hI2 hlen hgi).mono ?_
              rintro e'' W1 ⟨rfl, hw1, hb1, _⟩
              go_wp2
              go_roundw
              case rel =>
                refine ⟨i + 1, by omega, by go_num, ?_, hbi.trans (hb1.mono (by omega)), Nat.le_trans hgi hb1.size⟩
                rw [HS1.out, ← List.append_assoc, Lib.byteCells_append _ [wb x i]]
                have hc : Lib.byteCells [wb x i] = [Value.int .u8 (x / 2 ^ (8 * i) % 256)] := by
                  rw [← HW.out]; rfl
                rw [hc]
                exact Or.inr hw1
              case measure => simp [intOf]; omega
            · obtain rfl : i = 4 := by omega
              have HS2 := Asd.mk (sbs_suc R j (by omega))
              rw [wbs_four] at hI2
              go_wp2
              go_roundw
              case rel =>
                refine ⟨j + 1, by omega, by go_num, ?_, hbi, hgi⟩
                rw [HS2.out, HX.out]
                exact hI2
              case measure => simp [intOf]; omega
        · obtain rfl : j = 8 := by omega
          have hfin : sbs R 8 = sumBytes s := by
            unfold sbs sumBytes
            rw [HR.out, List.take_of_length_le (by omega)]
          rw [hfin] at hI
          go_wp2_with fail
          refine (Tryd.Builder_String_any_k gb gb _ wr hI hgj).mono ?_
          rintro e'' W1 ⟨rfl, _, hb1, _⟩
          go_wp2
          go_ret
          exact ⟨rfl, hbj.trans (hb1.mono (by omega))⟩
#print axioms sum_any
end Go.Proofs.YtdgejkiackeieaaDoor
