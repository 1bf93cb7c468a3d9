/- The contract of digest's compress. -/
import Derived.Test.YtdgejkiackeieaaDoorCmpS
import Derived.Deep.DeepCutAuto
import Derived.Deep.CutBlock
set_option linter.unusedVariables false
set_option linter.unusedSimpArgs false
namespace Go.Proofs.YtdgejkiackeieaaDoor
open Go.RowKit Go.Proofs.YtdgejkiackeieaaDoorW.PrintLast
set_option maxHeartbeats 8000000 in
set_option maxRecDepth 1000000 in
theorem compress_any (a0 a1 a2 a3 a4 a5 a6 a7 : Int) (s : ByteArray) (hs : s.size ≤ 64) (n : Nat) (hn : n < 4294967296) (last : Bool) (w : World) (hG : DigOk w) (h2 : 2 ≤ w.heap.size) :
    Calls Tryd.prog 96 #[.agg #[.int .u32 a0, .int .u32 a1, .int .u32 a2, .int .u32 a3, .int .u32 a4, .int .u32 a5, .int .u32 a6, .int .u32 a7], .string s, .int .i64 n, .bool last] w fun e w' => e = .returned (.agg ((compressI [a0, a1, a2, a3, a4, a5, a6, a7] s n last).map (Value.int .u32)).toArray) ∧ Below w.heap.size w w' := by
  obtain ⟨H, hH⟩ : ∃ H : List Int, H = [a0, a1, a2, a3, a4, a5, a6, a7] := ⟨_, rfl⟩
  have HH : H.length = 8 := by rw [hH]; rfl
  go_enter Tryd.func96, Tryd.ntmps96
  go_wp2_with fail
  refine (words_any s hs _).mono ?_
  rintro e w1 ⟨rfl, hb1⟩
  obtain ⟨M, hM⟩ : ∃ M, wordsK s s.size = M := ⟨_, rfl⟩
  have hML : M.length = 16 := by rw [← hM]; exact wordsK_length _ _
  have HM := Lib.hid hM
  rw [hM]
  clear hM
  have hr := hb1.block w.heap.size (by rw [World.size_alloc, World.size_alloc]; omega)
  rw [heap_alloc2_old] at hr
  have hr1 := hb1.block (w.heap.size + 1) (by rw [World.size_alloc, World.size_alloc]; omega)
  rw [heap_alloc2_new] at hr1
  have hs1 := hb1.size
  rw [World.size_alloc, World.size_alloc] at hs1
  have hb : Below w.heap.size w w1 := (((Below.refl _ w).alloc (Nat.le_refl _) _).alloc (by simp) _).trans (hb1.mono (by rw [World.size_alloc, World.size_alloc]; omega))
  clear hb1
  have hi : (Tryd.prog.info? 126).map (·.size) = some ((M.map (Value.int .u32)).toArray).size := by
    rw [show ((M.map (Value.int .u32)).toArray).size = 16 by simp [hML]]; kernel_rfl
  have ho := ones_u32 M
  have hz : (#[Value.int .u32 0, .int .u32 0, .int .u32 0, .int .u32 0, .int .u32 0, .int .u32 0, .int .u32 0, .int .u32 0, .int .u32 0, .int .u32 0, .int .u32 0, .int .u32 0, .int .u32 0, .int .u32 0, .int .u32 0, .int .u32 0] : Array Value).size = ((M.map (Value.int .u32)).toArray).size := by simp [hML]
  go_wp2_with (refine wpList_store_row rfl 126 _ _ rfl w1.heap.size _ rfl rfl 126 _ (heap_alloc_new _ _) hi hz ho ?_)
  have CV := cw_start w w1 H M (by rw [hH]; exact hr) hr1 hs1 hb hG h2
  obtain ⟨W, hW⟩ : ∃ W, (((w1.alloc (.cells z16 126)).setRow w1.heap.size (M.map (Value.int .u32)).toArray).alloc (.cells z16 126)) = W := ⟨_, rfl⟩
  rw [hW] at CV ⊢
  clear hW hr hr1 hi ho hz hs1 hb
  obtain ⟨g9, hg9⟩ : ∃ g9, w1.heap.size = g9 := ⟨_, rfl⟩
  rw [hg9] at CV ⊢
  clear hg9
  refine start_ (n := 3) (S := fun w' => True) (ds := []) #[false, false, false] (by kernel_rfl) rfl rfl trivial (fun hHeld => ?_)
  refine pure_ (i := 0) (N := some 18) (v := ?_) (a' := ?_) #[true, false, false] rfl rfl (by kernel_rfl) (fun _ _ _ h => h) (Or.inl ⟨by rfl, ?_⟩) ?_ ?_
  rotate_left
  · intro w'
    go_simp
    with_reducible rfl
  rotate_left
  · simp only [Act.put, List.setIfInBounds_toArray, List.set_cons_zero, List.set_cons_succ, i64_w, i32_w]
    rfl
  refine pure_ (i := 1) (N := some 19) (v := ?_) (a' := ?_) #[true, true, false] rfl rfl (by kernel_rfl) (fun _ _ _ h => h) (Or.inl ⟨by rfl, ?_⟩) ?_ ?_
  rotate_left
  · intro w'
    go_simp
    with_reducible rfl
  rotate_left
  · simp only [Act.put, List.setIfInBounds_toArray, List.set_cons_zero, List.set_cons_succ, i64_w, i32_w]
    rfl
  refine one_ (i := 2) (N := some 20) #[true, true, true] rfl rfl (by kernel_rfl) (by decide) (fun K hK => ?_)
  refine step_copy_splice rfl _ _ 100 100 rfl 97 Tryd.underlying100 (by kernel_rfl) (some ⟨g9 + 1, 0, none⟩) (some ⟨w.heap.size, 0, none⟩) 16 16 8 8 rfl rfl (g9 + 1) 0 ((List.replicate 16 (0 : Int)).map (Value.int .u32)) 126 CV.v (H.map (Value.int .u32)) (by rw [List.length_map, HH]; rfl) (fun _ => ⟨rfl, _, rfl, cells_at CV.h⟩) (by simp [HH]) (ones_mem H) (g9 + 1) W (Below.refl _ W).drew (Nat.le_refl _) ?_
  intro w3 hw3 hb3
  refine hK.out _ _ trivial (fun hHeld => ?_)
  clear hK K
  refine norm_ (a' := ?_) ?_ ?_
  rotate_left
  · show Act.put _ (some 20) _ = _
    simp only [Act.put, List.setIfInBounds_toArray, List.set_cons_zero, List.set_cons_succ, i64_w, i32_w]
    rfl
  refine done_ (by kernel_rfl) ?_
  have CV1 := CV.setV hb3 (arr_splice hw3.out)
  obtain ⟨V1, hV1⟩ : ∃ V1, splice (List.replicate 16 0) 0 H = V1 := ⟨_, rfl⟩
  rw [hV1] at CV1
  have hV1L : V1.length = 16 := by rw [← hV1, length_splice _ _ _ (by simp [HH])]; simp
  clear CV hb3 hw3
  obtain ⟨t0, fr0, hf0⟩ := CV1.dig.first
  go_wp2_with fail
  refine start_ (n := 3) (S := fun w' => True) (ds := []) #[false, false, false] (by kernel_rfl) rfl rfl trivial (fun hHeld => ?_)
  refine pure_ (i := 0) (N := some 21) (v := ?_) (a' := ?_) #[true, false, false] rfl rfl (by kernel_rfl) (fun _ _ _ h => h) (Or.inl ⟨by rfl, ?_⟩) ?_ ?_
  rotate_left
  · intro w'
    go_simp
    with_reducible rfl
  rotate_left
  · simp only [Act.put, List.setIfInBounds_toArray, List.set_cons_zero, List.set_cons_succ, i64_w, i32_w]
    rfl
  refine pure_ (i := 1) (N := some 22) (v := ?_) (a' := ?_) #[true, true, false] rfl rfl (by kernel_rfl) (fun _ _ _ h => h) (Or.inl ⟨by rfl, ?_⟩) ?_ ?_
  rotate_left
  · intro w'
    go_simp
    with_reducible rfl
  rotate_left
  · simp only [Act.put, List.setIfInBounds_toArray, List.set_cons_zero, List.set_cons_succ, i64_w, i32_w]
    rfl
  refine one_ (i := 2) (N := some 23) #[true, true, true] rfl rfl (by kernel_rfl) (by decide) (fun K hK => ?_)
  refine step_copy_splice rfl _ _ 100 100 rfl 97 Tryd.underlying100 (by kernel_rfl) (some ⟨g9 + 1, 8, none⟩) (some ⟨0, 0, none⟩) 8 8 8 8 rfl rfl (g9 + 1) 8 (V1.map (Value.int .u32)) 126 CV1.v (firstI.map (Value.int .u32)) (by rfl) (fun _ => ⟨rfl, _, rfl, cells_at0 hf0⟩) (by simp [hV1L]; decide) (ones_mem firstI) (g9 + 1) w3 (Below.refl _ w3).drew (Nat.le_refl _) ?_
  intro w4 hw4 hb4
  refine hK.out _ _ trivial (fun hHeld => ?_)
  clear hK K
  refine norm_ (a' := ?_) ?_ ?_
  rotate_left
  · show Act.put _ (some 23) _ = _
    simp only [Act.put, List.setIfInBounds_toArray, List.set_cons_zero, List.set_cons_succ, i64_w, i32_w]
    rfl
  refine done_ (by kernel_rfl) ?_
  have CV2 := CV1.setV hb4 (arr_splice hw4.out)
  rw [← hV1, splice_first H HH] at CV2
  clear CV1 hb4 hw4 hf0
  obtain ⟨V2, hV2⟩ : ∃ V2, H ++ firstI = V2 := ⟨_, rfl⟩
  rw [hV2] at CV2
  have hV2L : V2.length = 16 := by rw [← hV2, List.length_append, HH]; rfl
  have HV2 := Lib.hid hV2
  clear hV2 hV1 hV1L
  have c12 := CV2.v.cell 12 (by omega)
  have c13 := CV2.v.cell 13 (by omega)
  have c14 := CV2.v.cell 14 (by omega)
  have f12 := CV2.v.frozen 12
  have f13 := CV2.v.frozen 13
  have f14 := CV2.v.frozen 14
  have hi129 : (Tryd.prog.info? 129).map (·.size) = some ((ordersN.map (fun (n : Nat) => Value.int .u8 (n : Int))).toArray).size := by kernel_rfl
  go_upto_if 37 with (fail)
  (try simp only [Act.put, List.setIfInBounds_toArray, List.set_cons_zero, List.set_cons_succ])
  go_cut [] (fun wc => CW w wc g9 H (List.replicate 8 0) M (startI H n last))
  case first =>
    cases last
    · go_wp2
      go_meet
      case rel =>
        rw [startI_false, HV2.out]
        exact (CV2.put 12 _).put 13 _
    · go_wp2
      go_meet
      case rel =>
        rw [startI_true, HV2.out]
        exact ((CV2.put 12 _).put 13 _).put 14 _
  case rest =>
    have CC := hcut
    have hf2 := CC.dig.orders
    obtain ⟨t1, fr1, hf1⟩ := hf2
    obtain ⟨S0, hS0⟩ : ∃ S0, startI H n last = S0 := ⟨_, rfl⟩
    rw [hS0] at CC
    have hSL : S0.length = 16 := by rw [← hS0]; exact startI_length H HH n last
    have HS := Lib.hid hS0
    clear hS0 hcut
    go_wp2_with (refine wpList_load_row rfl 129 _ rfl 1 rfl t1 _ fr1 _ hf1 Tryd.underlying129 rfl hi129 ?_)
    go_loopw [43] (fun v wr => ∃ r : Nat, r ≤ 10 ∧ v = .int .i64 r ∧ CW w wr g9 H (List.replicate 8 0) M (roundsI M S0 r)) (fun v _ => 10 - (intOf v).toNat)
    case atStart => exact ⟨0, by omega, rfl, CC⟩
    case round =>
      obtain ⟨r, hr10, rfl, CR⟩ := hrel
      by_cases hlt : r < 10
      · obtain ⟨wo, hwo⟩ : ∃ wo, wr = wo := ⟨_, rfl⟩
        rw [hwo] at CR ⊢
        clear hwo
        have hix := idx_order r hlt
        obtain ⟨U, hU⟩ : ∃ U, roundsI M S0 r = U := ⟨_, rfl⟩
        have hUL : U.length = 16 := by rw [← hU, roundsI_length]; exact hSL
        rw [hU] at CR
        have HU := Lib.hid hU
        clear hU
        obtain ⟨gz, hgz⟩ : ∃ gz, wo.heap.size = gz := ⟨_, rfl⟩
        have hgl : g9 + 1 < gz := by rw [← hgz]; exact (Array.getElem?_eq_some_iff.1 CR.v).1
        have HGZ := Lib.hid hgz
        clear hgz
        have hi128 : (Tryd.prog.info? 128).map (·.size) = some (((zI r).map (Value.int .u8)).toArray).size := by
          rw [show (((zI r).map (Value.int .u8)).toArray).size = 16 by simp [zI_length]]; kernel_rfl
        have hz8 := ones_u8 (zI r)
        have hzs : z8.size = (((zI r).map (Value.int .u8)).toArray).size := by simp [zI_length]
        go_wp2_with (refine wpList_store_row rfl 128 _ _ rfl wo.heap.size _ rfl rfl 128 _ (heap_alloc_new _ _) hi128 hzs hz8 ?_)
        obtain ⟨CZ, hz⟩ := cw_z CR (zI r) (zI_length r)
        obtain ⟨w8, hw8⟩ : ∃ w8, ((wo.alloc (.cells z8 128)).setRow wo.heap.size ((zI r).map (Value.int .u8)).toArray) = w8 := ⟨_, rfl⟩
        rw [hw8] at CZ hz ⊢
        rw [HGZ.out] at hz ⊢
        clear hw8 hix hi128 hz8 hzs
        go_wp2_with fail
        go_loopw [13, 46] (fun _ vi wi => ∃ i : Nat, i ≤ 4 ∧ vi = .int .i64 i ∧ CW w wi g9 H (List.replicate 8 0) M (half1 M r U i) ∧ Arr .u8 128 wi gz (zI r)) (fun _ vi _ => 4 - (intOf vi).toNat)
        case atStart => exact ⟨0, by omega, rfl, CZ, hz⟩
        case round =>
          obtain ⟨i, hi4, rfl, CI, hzi⟩ := hrel
          by_cases hlt : i < 4
          · obtain ⟨X, hX⟩ : ∃ X, half1 M r U i = X := ⟨_, rfl⟩
            have hXL : X.length = 16 := by rw [← hX, half1_length]; exact hUL
            rw [hX] at CI
            have HX := Lib.hid hX
            clear hX
            obtain ⟨b, hb⟩ : ∃ b, 4 + i = b := ⟨_, rfl⟩
            obtain ⟨c, hc⟩ : ∃ c, 8 + i = c := ⟨_, rfl⟩
            obtain ⟨d, hd⟩ : ∃ d, 12 + i = d := ⟨_, rfl⟩
            obtain ⟨p2, hp2⟩ : ∃ p2, 2 * i = p2 := ⟨_, rfl⟩
            obtain ⟨p3, hp3⟩ : ∃ p3, 2 * i + 1 = p3 := ⟨_, rfl⟩
            obtain ⟨z1, hz1⟩ : ∃ z1, ordN r p2 = z1 := ⟨_, rfl⟩
            obtain ⟨z2, hz2⟩ : ∃ z2, ordN r p3 = z2 := ⟨_, rfl⟩
            have hi16 : i < 16 := by omega
            have hb16 : b < 16 := by omega
            have hc16 : c < 16 := by omega
            have hd16 : d < 16 := by omega
            have hp16 : p2 < 16 := by omega
            have hq16 : p3 < 16 := by omega
            have hz16 : z1 < 16 := by rw [← hz1]; exact ordN_lt _ _
            have hy16 : z2 < 16 := by rw [← hz2]; exact ordN_lt _ _
            have jp : (p2 : Int) < 16 := by omega
            have jq : (p3 : Int) < 16 := by omega
            have jz : (z1 : Int) < 16 := by omega
            have jy : (z2 : Int) < 16 := by omega
            have cz1 := hzi.cell p2 (by rw [zI_length]; exact hp16)
            have cz2 := hzi.cell p3 (by rw [zI_length]; exact hq16)
            rw [el_zI r _ hp16, hz1] at cz1
            rw [el_zI r _ hq16, hz2] at cz2
            have cm1 := CI.m.cell z1 (by rw [hML]; exact hz16)
            have cm2 := CI.m.cell z2 (by rw [hML]; exact hy16)
            have hv' : Arr .u32 126 wr.drew (g9 + 1) X := CI.v
            have hgz' : gz ≠ g9 + 1 := by omega
            obtain ⟨q1, q2, q3, q4, q5⟩ := q_half1 i b c d p2 p3 hlt hb hc hd hp2 hp3
            have HB := Lib.hid hb; have HC := Lib.hid hc; have HD := Lib.hid hd; have HP := Lib.hid hp2; have HQ := Lib.hid hp3; have HZ1 := Lib.hid hz1; have HZ2 := Lib.hid hz2
            clear hb hc hd hp2 hp3 hz1 hz2
            go_wp2_with fail
            refine start_ (n := 21) (S := fun w' => w'.cell? ⟨gz, p2, none⟩ = some (.int .u8 (z1 : Int)) ∧ w'.cell? ⟨gz, p3, none⟩ = some (.int .u8 (z2 : Int)) ∧ w'.cell? ⟨g9, z1, none⟩ = some (.int .u32 (el M z1)) ∧ w'.cell? ⟨g9, z2, none⟩ = some (.int .u32 (el M z2))) (ds := [20]) #[false, false, false, false, false, false, false, false, false, false, false, false, false, false, false, false, false, false, false, false, false] (by kernel_rfl) rfl rfl ⟨cz1, cz2, cm1, cm2⟩ (fun hHeld => ?_)
            refine pure_ (i := 0) (N := some 49) (v := ?_) (a' := ?_) #[true, false, false, false, false, false, false, false, false, false, false, false, false, false, false, false, false, false, false, false, false] rfl rfl (by kernel_rfl) (fun _ _ _ h => h) (Or.inl ⟨by rfl, ?_⟩) ?_ ?_
            rotate_left
            · intro w'
              go_simp
              with_reducible rfl
            rotate_left
            · simp only [Act.put, List.setIfInBounds_toArray, List.set_cons_zero, List.set_cons_succ, i64_w, i32_w]
              rfl
            refine pure_ (i := 1) (N := some 50) (v := ?_) (a' := ?_) #[true, true, false, false, false, false, false, false, false, false, false, false, false, false, false, false, false, false, false, false, false] rfl rfl (by kernel_rfl) (fun _ _ _ h => h) (Or.inl ⟨by rfl, ?_⟩) ?_ ?_
            rotate_left
            · intro w'
              go_simp
              with_reducible rfl
            rotate_left
            · simp only [Act.put, List.setIfInBounds_toArray, List.set_cons_zero, List.set_cons_succ, i64_w, i32_w]
              rfl
            refine pure_ (i := 2) (N := some 51) (v := ?_) (a' := ?_) #[true, true, true, false, false, false, false, false, false, false, false, false, false, false, false, false, false, false, false, false, false] rfl rfl (by kernel_rfl) (fun _ _ _ h => h) (Or.inl ⟨by rfl, ?_⟩) ?_ ?_
            rotate_left
            · intro w'
              go_simp
              with_reducible rfl
            rotate_left
            · simp only [Act.put, List.setIfInBounds_toArray, List.set_cons_zero, List.set_cons_succ, i64_w, i32_w]
              rfl
            refine pure_ (i := 3) (N := some 52) (v := ?_) (a' := ?_) #[true, true, true, true, false, false, false, false, false, false, false, false, false, false, false, false, false, false, false, false, false] rfl rfl (by kernel_rfl) (fun _ _ _ h => h) (Or.inl ⟨by rfl, ?_⟩) ?_ ?_
            rotate_left
            · intro w'
              go_simp
              with_reducible rfl
            rotate_left
            · simp only [Act.put, List.setIfInBounds_toArray, List.set_cons_zero, List.set_cons_succ, i64_w, i32_w]
              rfl
            refine pure_ (i := 4) (N := some 53) (v := ?_) (a' := ?_) #[true, true, true, true, true, false, false, false, false, false, false, false, false, false, false, false, false, false, false, false, false] rfl rfl (by kernel_rfl) (fun _ _ _ h => h) (Or.inl ⟨by rfl, ?_⟩) ?_ ?_
            rotate_left
            · intro w'
              go_simp
              with_reducible rfl
            rotate_left
            · simp only [Act.put, List.setIfInBounds_toArray, List.set_cons_zero, List.set_cons_succ, i64_w, i32_w]
              rfl
            refine pure_ (i := 5) (N := some 54) (v := ?_) (a' := ?_) #[true, true, true, true, true, true, false, false, false, false, false, false, false, false, false, false, false, false, false, false, false] rfl rfl (by kernel_rfl) (fun _ _ _ h => h) (Or.inl ⟨by rfl, ?_⟩) ?_ ?_
            rotate_left
            · intro w'
              go_simp
              with_reducible rfl
            rotate_left
            · simp only [Act.put, List.setIfInBounds_toArray, List.set_cons_zero, List.set_cons_succ, i64_w, i32_w]
              rfl
            refine pure_ (i := 6) (N := some 55) (v := ?_) (a' := ?_) #[true, true, true, true, true, true, true, false, false, false, false, false, false, false, false, false, false, false, false, false, false] rfl rfl (by kernel_rfl) (fun _ _ _ h => h) (Or.inl ⟨by rfl, ?_⟩) ?_ ?_
            rotate_left
            · intro w'
              go_simp
              with_reducible rfl
            rotate_left
            · simp only [Act.put, List.setIfInBounds_toArray, List.set_cons_zero, List.set_cons_succ, i64_w, i32_w]
              rfl
            refine pure_ (i := 7) (N := some 56) (v := ?_) (a' := ?_) #[true, true, true, true, true, true, true, true, false, false, false, false, false, false, false, false, false, false, false, false, false] rfl rfl (by kernel_rfl) (fun _ _ _ h => h) (Or.inl ⟨by rfl, ?_⟩) ?_ ?_
            rotate_left
            · intro w'
              go_simp
              with_reducible rfl
            rotate_left
            · simp only [Act.put, List.setIfInBounds_toArray, List.set_cons_zero, List.set_cons_succ, i64_w, i32_w]
              rfl
            refine pure_ (i := 8) (N := some 57) (v := ?_) (a' := ?_) #[true, true, true, true, true, true, true, true, true, false, false, false, false, false, false, false, false, false, false, false, false] rfl rfl (by kernel_rfl) (fun _ _ _ h => h) (Or.inl ⟨by rfl, ?_⟩) ?_ ?_
            rotate_left
            · intro w'
              go_simp
              with_reducible rfl
            rotate_left
            · simp only [Act.put, List.setIfInBounds_toArray, List.set_cons_zero, List.set_cons_succ, i64_w, i32_w]
              rfl
            refine pure_ (i := 9) (N := some 58) (v := ?_) (a' := ?_) #[true, true, true, true, true, true, true, true, true, true, false, false, false, false, false, false, false, false, false, false, false] rfl rfl (by kernel_rfl) (fun _ _ _ h => h) (Or.inl ⟨by rfl, ?_⟩) ?_ ?_
            rotate_left
            · intro w'
              go_simp
              with_reducible rfl
            rotate_left
            · simp only [Act.put, List.setIfInBounds_toArray, List.set_cons_zero, List.set_cons_succ, i64_w, i32_w]
              rfl
            refine pure_ (i := 13) (N := some 62) (v := ?_) (a' := ?_) #[true, true, true, true, true, true, true, true, true, true, false, false, false, true, false, false, false, false, false, false, false] rfl rfl (by kernel_rfl) (fun _ _ _ h => h) (Or.inl ⟨by rfl, ?_⟩) ?_ ?_
            rotate_left
            · intro w'
              go_simp
              with_reducible rfl
            rotate_left
            · simp only [Act.put, List.setIfInBounds_toArray, List.set_cons_zero, List.set_cons_succ, i64_w, i32_w]
              rfl
            refine pure_ (i := 14) (N := some 63) (v := ?_) (a' := ?_) #[true, true, true, true, true, true, true, true, true, true, false, false, false, true, true, false, false, false, false, false, false] rfl rfl (by kernel_rfl) (fun _ _ _ h => h) (Or.inl ⟨by rfl, ?_⟩) ?_ ?_
            rotate_left
            · intro w'
              go_simp
              with_reducible rfl
            rotate_left
            · simp only [Act.put, List.setIfInBounds_toArray, List.set_cons_zero, List.set_cons_succ, i64_w, i32_w]
              rfl
            refine pure_ (i := 15) (N := some 64) (v := ?_) (a' := ?_) #[true, true, true, true, true, true, true, true, true, true, false, false, false, true, true, true, false, false, false, false, false] rfl rfl (by kernel_rfl) (fun _ _ _ h => h) (Or.inl ⟨by rfl, ?_⟩) ?_ ?_
            rotate_left
            · intro w'
              go_simp
              with_reducible rfl
            rotate_left
            · simp only [Act.put, List.setIfInBounds_toArray, List.set_cons_zero, List.set_cons_succ, i64_w, i32_w]
              rfl
            refine pure_ (i := 16) (N := some 65) (v := ?_) (a' := ?_) #[true, true, true, true, true, true, true, true, true, true, false, false, false, true, true, true, true, false, false, false, false] rfl rfl (by kernel_rfl) (fun _ _ _ h => h) (Or.inl ⟨by rfl, ?_⟩) ?_ ?_
            rotate_left
            · intro w'
              go_simp
              with_reducible rfl
            rotate_left
            · simp only [Act.put, List.setIfInBounds_toArray, List.set_cons_zero, List.set_cons_succ, i64_w, i32_w]
              rfl
            refine take_ (i := 10) (N := some 59) (v := ?_) (a' := ?_) #[true, true, true, true, true, true, true, true, true, true, true, false, false, true, true, true, true, false, false, false, false] rfl rfl (by kernel_rfl) (fun _ _ _ h => h) (Or.inl ⟨by rfl, ?_⟩) hHeld ?_ ?_
            rotate_left
            · rintro w' ⟨s0, s1, s2, s3⟩
              go_simp
              with_reducible rfl
            rotate_left
            · simp only [Act.put, List.setIfInBounds_toArray, List.set_cons_zero, List.set_cons_succ, i64_w, i32_w]
              rfl
            refine pure_ (i := 11) (N := some 60) (v := ?_) (a' := ?_) #[true, true, true, true, true, true, true, true, true, true, true, true, false, true, true, true, true, false, false, false, false] rfl rfl (by kernel_rfl) (fun _ _ _ h => h) (Or.inl ⟨by rfl, ?_⟩) ?_ ?_
            rotate_left
            · intro w'
              go_simp
              with_reducible rfl
            rotate_left
            · simp only [Act.put, List.setIfInBounds_toArray, List.set_cons_zero, List.set_cons_succ, i64_w, i32_w]
              rfl
            refine take_ (i := 12) (N := some 61) (v := ?_) (a' := ?_) #[true, true, true, true, true, true, true, true, true, true, true, true, true, true, true, true, true, false, false, false, false] rfl rfl (by kernel_rfl) (fun _ _ _ h => h) (Or.inl ⟨by rfl, ?_⟩) hHeld ?_ ?_
            rotate_left
            · rintro w' ⟨s0, s1, s2, s3⟩
              go_simp
              with_reducible rfl
            rotate_left
            · simp only [Act.put, List.setIfInBounds_toArray, List.set_cons_zero, List.set_cons_succ, i64_w, i32_w]
              rfl
            refine take_ (i := 17) (N := some 66) (v := ?_) (a' := ?_) #[true, true, true, true, true, true, true, true, true, true, true, true, true, true, true, true, true, true, false, false, false] rfl rfl (by kernel_rfl) (fun _ _ _ h => h) (Or.inl ⟨by rfl, ?_⟩) hHeld ?_ ?_
            rotate_left
            · rintro w' ⟨s0, s1, s2, s3⟩
              go_simp
              with_reducible rfl
            rotate_left
            · simp only [Act.put, List.setIfInBounds_toArray, List.set_cons_zero, List.set_cons_succ, i64_w, i32_w]
              rfl
            refine pure_ (i := 18) (N := some 67) (v := ?_) (a' := ?_) #[true, true, true, true, true, true, true, true, true, true, true, true, true, true, true, true, true, true, true, false, false] rfl rfl (by kernel_rfl) (fun _ _ _ h => h) (Or.inl ⟨by rfl, ?_⟩) ?_ ?_
            rotate_left
            · intro w'
              go_simp
              with_reducible rfl
            rotate_left
            · simp only [Act.put, List.setIfInBounds_toArray, List.set_cons_zero, List.set_cons_succ, i64_w, i32_w]
              rfl
            refine take_ (i := 19) (N := some 68) (v := ?_) (a' := ?_) #[true, true, true, true, true, true, true, true, true, true, true, true, true, true, true, true, true, true, true, true, false] rfl rfl (by kernel_rfl) (fun _ _ _ h => h) (Or.inl ⟨by rfl, ?_⟩) hHeld ?_ ?_
            rotate_left
            · rintro w' ⟨s0, s1, s2, s3⟩
              go_simp
              with_reducible rfl
            rotate_left
            · simp only [Act.put, List.setIfInBounds_toArray, List.set_cons_zero, List.set_cons_succ, i64_w, i32_w]
              rfl
            refine last_ (i := 20) (N := some 69) #[true, true, true, true, true, true, true, true, true, true, true, true, true, true, true, true, true, true, true, true, true] rfl rfl (by kernel_rfl) (by decide) (fun K hK => ?_)
            refine goes_ Tryd.func127 (by kernel_rfl) rfl #[.pointer (some ⟨g9 + 1, 0, none⟩), .int .i64 i, .int .i64 (wrap64 (4 + ↑i)), .int .i64 (wrap64 (8 + ↑i)), .int .i64 (wrap64 (12 + ↑i)), .int .u32 (el M z1), .int .u32 (el M z2)] (by rfl) rfl rfl (by simp only [List.map_toArray, List.map_cons, List.map_nil]; rfl) ?_
            rw [q1, q2, q3]
            with_reducible refine (mix_any (g9 + 1) X hXL i b c d hi16 hb16 hc16 hd16 (el M z1) (el M z2) wr.drew hv').mono ?_
            rintro e w5 ⟨rfl, hA5, hO5⟩
            refine ⟨_, rfl, ?_⟩
            refine hK.out _ _ ?_
            clear hK K
            refine norm_ (a' := ?_) ?_ ?_
            rotate_left
            · show Act.put _ (some 69) _ = _
              simp only [Act.put, List.setIfInBounds_toArray, List.set_cons_zero, List.set_cons_succ, i64_w, i32_w]
              rfl
            refine done_ (by kernel_rfl) ?_
            have hbl : Below (g9 + 1) wr w5 := ((Below.refl (g9 + 1) wr).drew).trans (hO5.below (Nat.le_refl _))
            have hz5 : Arr .u8 128 w5 gz (zI r) := (hO5.block gz hgz').trans hzi
            have C5 := CI.setV hbl hA5
            clear q1 q2 q3 q4 q5 cz1 cz2 cm1 cm2
            go_wp2
            go_roundw
            case rel =>
              refine ⟨i + 1, by omega, by go_num, ?_, hz5⟩
              rw [half1, HX.out, HB.out, HC.out, HD.out, HQ.out, HP.out, HZ1.out, HZ2.out]
              exact C5
            case measure => simp [intOf]; omega
          · obtain rfl : i = 4 := by omega
            obtain ⟨wq, hwq⟩ : ∃ wq, wr = wq := ⟨_, rfl⟩
            rw [hwq] at CI hzi ⊢
            clear hwq
            obtain ⟨Y, hY⟩ : ∃ Y, half1 M r U 4 = Y := ⟨_, rfl⟩
            have hYL : Y.length = 16 := by rw [← hY, half1_length]; exact hUL
            rw [hY] at CI
            have HY := Asd.mk hY
            clear hY
            go_wp2_with fail
            go_loopw [14, 71] (fun _ vi wi => ∃ i : Nat, i ≤ 4 ∧ vi = .int .i64 i ∧ CW w wi g9 H (List.replicate 8 0) M (half2 M r Y i) ∧ Arr .u8 128 wi gz (zI r)) (fun _ vi _ => 4 - (intOf vi).toNat)
            case atStart => exact ⟨0, by omega, rfl, CI, hzi⟩
            case round =>
              obtain ⟨i, hi4, rfl, CJ, hzj⟩ := hrel
              by_cases hlt : i < 4
              · obtain ⟨X, hX⟩ : ∃ X, half2 M r Y i = X := ⟨_, rfl⟩
                have hXL : X.length = 16 := by rw [← hX, half2_length]; exact hYL
                rw [hX] at CJ
                have HX := Lib.hid hX
                clear hX
                obtain ⟨b, hb⟩ : ∃ b, 4 + (i + 1) % 4 = b := ⟨_, rfl⟩
                obtain ⟨c, hc⟩ : ∃ c, 8 + (i + 2) % 4 = c := ⟨_, rfl⟩
                obtain ⟨d, hd⟩ : ∃ d, 12 + (i + 3) % 4 = d := ⟨_, rfl⟩
                obtain ⟨p2, hp2⟩ : ∃ p2, 8 + 2 * i = p2 := ⟨_, rfl⟩
                obtain ⟨p3, hp3⟩ : ∃ p3, 9 + 2 * i = p3 := ⟨_, rfl⟩
                obtain ⟨z1, hz1⟩ : ∃ z1, ordN r p2 = z1 := ⟨_, rfl⟩
                obtain ⟨z2, hz2⟩ : ∃ z2, ordN r p3 = z2 := ⟨_, rfl⟩
                have hi16 : i < 16 := by omega
                have hb16 : b < 16 := by omega
                have hc16 : c < 16 := by omega
                have hd16 : d < 16 := by omega
                have hp16 : p2 < 16 := by omega
                have hq16 : p3 < 16 := by omega
                have hz16 : z1 < 16 := by rw [← hz1]; exact ordN_lt _ _
                have hy16 : z2 < 16 := by rw [← hz2]; exact ordN_lt _ _
                have jp : (p2 : Int) < 16 := by omega
                have jq : (p3 : Int) < 16 := by omega
                have jz : (z1 : Int) < 16 := by omega
                have jy : (z2 : Int) < 16 := by omega
                have cz1 := hzj.cell p2 (by rw [zI_length]; exact hp16)
                have cz2 := hzj.cell p3 (by rw [zI_length]; exact hq16)
                rw [el_zI r _ hp16, hz1] at cz1
                rw [el_zI r _ hq16, hz2] at cz2
                have cm1 := CJ.m.cell z1 (by rw [hML]; exact hz16)
                have cm2 := CJ.m.cell z2 (by rw [hML]; exact hy16)
                have hv' : Arr .u32 126 wr.drew (g9 + 1) X := CJ.v
                have hgz' : gz ≠ g9 + 1 := by omega
                obtain ⟨m2, j1, j2, j3, q1, q2, q3, q4, q5, q6, r1, r2, r3⟩ := q_half2 i b c d p2 p3 hlt hb hc hd hp2 hp3
                have Q1 := Asd.mk q1; have Q2 := Asd.mk q2; have Q3 := Asd.mk q3; have Q4 := Asd.mk q4; have Q5 := Asd.mk q5; have Q6 := Asd.mk q6; have R1 := Asd.mk r1; have R2 := Asd.mk r2; have R3 := Asd.mk r3
                clear q1 q2 q3 q4 q5 q6 r1 r2 r3
                have HB := Asd.mk hb; have HC := Asd.mk hc; have HD := Asd.mk hd; have HP := Asd.mk hp2; have HQ := Asd.mk hp3; have HZ1 := Asd.mk hz1; have HZ2 := Asd.mk hz2
                clear hb hc hd hp2 hp3 hz1 hz2
                go_wp2_with fail
                refine start_ (n := 28) (S := fun w' => w'.cell? ⟨gz, p2, none⟩ = some (.int .u8 (z1 : Int)) ∧ w'.cell? ⟨gz, p3, none⟩ = some (.int .u8 (z2 : Int)) ∧ w'.cell? ⟨g9, z1, none⟩ = some (.int .u32 (el M z1)) ∧ w'.cell? ⟨g9, z2, none⟩ = some (.int .u32 (el M z2))) (ds := [27]) #[false, false, false, false, false, false, false, false, false, false, false, false, false, false, false, false, false, false, false, false, false, false, false, false, false, false, false, false] (by kernel_rfl) rfl rfl ⟨cz1, cz2, cm1, cm2⟩ (fun hHeld => ?_)
                refine pure_ (i := 0) (N := some 74) (v := ?_) (a' := ?_) #[true, false, false, false, false, false, false, false, false, false, false, false, false, false, false, false, false, false, false, false, false, false, false, false, false, false, false, false] rfl rfl (by kernel_rfl) (fun _ _ _ h => h) (Or.inl ⟨by rfl, ?_⟩) ?_ ?_
                rotate_left
                · intro w'
                  go_simp
                  with_reducible rfl
                rotate_left
                · simp only [Act.put, List.setIfInBounds_toArray, List.set_cons_zero, List.set_cons_succ, i64_w, i32_w]
                  rfl
                refine pure_ (i := 1) (N := some 75) (v := ?_) (a' := ?_) #[true, true, false, false, false, false, false, false, false, false, false, false, false, false, false, false, false, false, false, false, false, false, false, false, false, false, false, false] rfl rfl (by kernel_rfl) (fun _ _ _ h => h) (Or.inl ⟨by rfl, ?_⟩) ?_ ?_
                rotate_left
                · intro w'
                  go_simp
                  with_reducible rfl
                rotate_left
                · simp only [Act.put, List.setIfInBounds_toArray, List.set_cons_zero, List.set_cons_succ, i64_w, i32_w]
                  rfl
                refine pure_ (i := 2) (N := some 76) (v := ?_) (a' := ?_) #[true, true, true, false, false, false, false, false, false, false, false, false, false, false, false, false, false, false, false, false, false, false, false, false, false, false, false, false] rfl rfl (by kernel_rfl) (fun _ _ _ h => h) (Or.inl ⟨by rfl, ?_⟩) ?_ ?_
                rotate_left
                · intro w'
                  go_simp
                  with_reducible rfl
                rotate_left
                · simp only [Act.put, List.setIfInBounds_toArray, List.set_cons_zero, List.set_cons_succ, i64_w, i32_w]
                  rfl
                refine pure_ (i := 3) (N := some 77) (v := ?_) (a' := ?_) #[true, true, true, true, false, false, false, false, false, false, false, false, false, false, false, false, false, false, false, false, false, false, false, false, false, false, false, false] rfl rfl (by kernel_rfl) (fun _ _ _ h => h) (Or.inl ⟨by rfl, ?_⟩) ?_ ?_
                rotate_left
                · intro w'
                  go_simp
                  with_reducible rfl
                rotate_left
                · simp only [Act.put, List.setIfInBounds_toArray, List.set_cons_zero, List.set_cons_succ, i64_w, i32_w]
                  rfl
                refine pure_ (i := 4) (N := some 78) (v := ?_) (a' := ?_) #[true, true, true, true, true, false, false, false, false, false, false, false, false, false, false, false, false, false, false, false, false, false, false, false, false, false, false, false] rfl rfl (by kernel_rfl) (fun _ _ _ h => h) (Or.inl ⟨by rfl, ?_⟩) ?_ ?_
                rotate_left
                · intro w'
                  go_simp
                  with_reducible rfl
                rotate_left
                · simp only [Act.put, List.setIfInBounds_toArray, List.set_cons_zero, List.set_cons_succ, i64_w, i32_w]
                  rfl
                refine pure_ (i := 5) (N := some 79) (v := ?_) (a' := ?_) #[true, true, true, true, true, true, false, false, false, false, false, false, false, false, false, false, false, false, false, false, false, false, false, false, false, false, false, false] rfl rfl (by kernel_rfl) (fun _ _ _ h => h) (Or.inl ⟨by rfl, ?_⟩) ?_ ?_
                rotate_left
                · intro w'
                  go_simp
                  with_reducible rfl
                rotate_left
                · simp only [Act.put, List.setIfInBounds_toArray, List.set_cons_zero, List.set_cons_succ, i64_w, i32_w]
                  rfl
                refine pure_ (i := 6) (N := some 80) (v := ?_) (a' := ?_) #[true, true, true, true, true, true, true, false, false, false, false, false, false, false, false, false, false, false, false, false, false, false, false, false, false, false, false, false] rfl rfl (by kernel_rfl) (fun _ _ _ h => h) (Or.inl ⟨by rfl, ?_⟩) ?_ ?_
                rotate_left
                · intro w'
                  go_simp
                  with_reducible rfl
                rotate_left
                · simp only [Act.put, List.setIfInBounds_toArray, List.set_cons_zero, List.set_cons_succ, i64_w, i32_w]
                  rfl
                refine pure_ (i := 7) (N := some 81) (v := ?_) (a' := ?_) #[true, true, true, true, true, true, true, true, false, false, false, false, false, false, false, false, false, false, false, false, false, false, false, false, false, false, false, false] rfl rfl (by kernel_rfl) (fun _ _ _ h => h) (Or.inl ⟨by rfl, ?_⟩) ?_ ?_
                rotate_left
                · intro w'
                  go_simp
                  with_reducible rfl
                rotate_left
                · simp only [Act.put, List.setIfInBounds_toArray, List.set_cons_zero, List.set_cons_succ, i64_w, i32_w]
                  rfl
                refine pure_ (i := 8) (N := some 82) (v := ?_) (a' := ?_) #[true, true, true, true, true, true, true, true, true, false, false, false, false, false, false, false, false, false, false, false, false, false, false, false, false, false, false, false] rfl rfl (by kernel_rfl) (fun _ _ _ h => h) (Or.inl ⟨by rfl, ?_⟩) ?_ ?_
                rotate_left
                · intro w'
                  go_simp
                  with_reducible rfl
                rotate_left
                · simp only [Act.put, List.setIfInBounds_toArray, List.set_cons_zero, List.set_cons_succ, i64_w, i32_w]
                  rfl
                refine pure_ (i := 9) (N := some 83) (v := ?_) (a' := ?_) #[true, true, true, true, true, true, true, true, true, true, false, false, false, false, false, false, false, false, false, false, false, false, false, false, false, false, false, false] rfl rfl (by kernel_rfl) (fun _ _ _ h => h) (Or.inl ⟨by rfl, ?_⟩) ?_ ?_
                rotate_left
                · intro w'
                  go_simp
                  with_reducible rfl
                rotate_left
                · simp only [Act.put, List.setIfInBounds_toArray, List.set_cons_zero, List.set_cons_succ, i64_w, i32_w]
                  rfl
                refine pure_ (i := 10) (N := some 84) (v := ?_) (a' := ?_) #[true, true, true, true, true, true, true, true, true, true, true, false, false, false, false, false, false, false, false, false, false, false, false, false, false, false, false, false] rfl rfl (by kernel_rfl) (fun _ _ _ h => h) (Or.inl ⟨by rfl, ?_⟩) ?_ ?_
                rotate_left
                · intro w'
                  go_simp
                  with_reducible rfl
                rotate_left
                · simp only [Act.put, List.setIfInBounds_toArray, List.set_cons_zero, List.set_cons_succ, i64_w, i32_w]
                  rfl
                refine pure_ (i := 11) (N := some 85) (v := ?_) (a' := ?_) #[true, true, true, true, true, true, true, true, true, true, true, true, false, false, false, false, false, false, false, false, false, false, false, false, false, false, false, false] rfl rfl (by kernel_rfl) (fun _ _ _ h => h) (Or.inl ⟨by rfl, ?_⟩) ?_ ?_
                rotate_left
                · intro w'
                  go_simp
                  with_reducible rfl
                rotate_left
                · simp only [Act.put, List.setIfInBounds_toArray, List.set_cons_zero, List.set_cons_succ, i64_w, i32_w]
                  rfl
                refine pure_ (i := 12) (N := some 86) (v := ?_) (a' := ?_) #[true, true, true, true, true, true, true, true, true, true, true, true, true, false, false, false, false, false, false, false, false, false, false, false, false, false, false, false] rfl rfl (by kernel_rfl) (fun _ _ _ h => h) (Or.inl ⟨by rfl, ?_⟩) ?_ ?_
                rotate_left
                · intro w'
                  go_simp
                  with_reducible rfl
                rotate_left
                · simp only [Act.put, List.setIfInBounds_toArray, List.set_cons_zero, List.set_cons_succ, i64_w, i32_w]
                  rfl
                have q1 := Q1.out; have q2 := Q2.out; have q3 := Q3.out; have q4 := Q4.out; have q5 := Q5.out; have q6 := Q6.out; have r1 := R1.out; have r2 := R2.out; have r3 := R3.out
                refine pure_ (i := 13) (N := some 87) (v := ?_) (a' := ?_) #[true, true, true, true, true, true, true, true, true, true, true, true, true, true, false, false, false, false, false, false, false, false, false, false, false, false, false, false] rfl rfl (by kernel_rfl) (fun _ _ _ h => h) (Or.inl ⟨by rfl, ?_⟩) ?_ ?_
                rotate_left
                · intro w'
                  go_simp
                  with_reducible rfl
                rotate_left
                · simp only [Act.put, List.setIfInBounds_toArray, List.set_cons_zero, List.set_cons_succ, i64_w, i32_w]
                  rfl
                refine pure_ (i := 14) (N := some 88) (v := ?_) (a' := ?_) #[true, true, true, true, true, true, true, true, true, true, true, true, true, true, true, false, false, false, false, false, false, false, false, false, false, false, false, false] rfl rfl (by kernel_rfl) (fun _ _ _ h => h) (Or.inl ⟨by rfl, ?_⟩) ?_ ?_
                rotate_left
                · intro w'
                  go_simp
                  with_reducible rfl
                rotate_left
                · simp only [Act.put, List.setIfInBounds_toArray, List.set_cons_zero, List.set_cons_succ, i64_w, i32_w]
                  rfl
                refine pure_ (i := 15) (N := some 89) (v := ?_) (a' := ?_) #[true, true, true, true, true, true, true, true, true, true, true, true, true, true, true, true, false, false, false, false, false, false, false, false, false, false, false, false] rfl rfl (by kernel_rfl) (fun _ _ _ h => h) (Or.inl ⟨by rfl, ?_⟩) ?_ ?_
                rotate_left
                · intro w'
                  go_simp
                  with_reducible rfl
                rotate_left
                · simp only [Act.put, List.setIfInBounds_toArray, List.set_cons_zero, List.set_cons_succ, i64_w, i32_w]
                  rfl
                refine pure_ (i := 16) (N := some 90) (v := ?_) (a' := ?_) #[true, true, true, true, true, true, true, true, true, true, true, true, true, true, true, true, true, false, false, false, false, false, false, false, false, false, false, false] rfl rfl (by kernel_rfl) (fun _ _ _ h => h) (Or.inl ⟨by rfl, ?_⟩) ?_ ?_
                rotate_left
                · intro w'
                  go_simp
                  with_reducible rfl
                rotate_left
                · simp only [Act.put, List.setIfInBounds_toArray, List.set_cons_zero, List.set_cons_succ, i64_w, i32_w]
                  rfl
                refine pure_ (i := 20) (N := some 94) (v := ?_) (a' := ?_) #[true, true, true, true, true, true, true, true, true, true, true, true, true, true, true, true, true, false, false, false, true, false, false, false, false, false, false, false] rfl rfl (by kernel_rfl) (fun _ _ _ h => h) (Or.inl ⟨by rfl, ?_⟩) ?_ ?_
                rotate_left
                · intro w'
                  go_simp
                  with_reducible rfl
                rotate_left
                · simp only [Act.put, List.setIfInBounds_toArray, List.set_cons_zero, List.set_cons_succ, i64_w, i32_w]
                  rfl
                refine pure_ (i := 21) (N := some 95) (v := ?_) (a' := ?_) #[true, true, true, true, true, true, true, true, true, true, true, true, true, true, true, true, true, false, false, false, true, true, false, false, false, false, false, false] rfl rfl (by kernel_rfl) (fun _ _ _ h => h) (Or.inl ⟨by rfl, ?_⟩) ?_ ?_
                rotate_left
                · intro w'
                  go_simp
                  with_reducible rfl
                rotate_left
                · simp only [Act.put, List.setIfInBounds_toArray, List.set_cons_zero, List.set_cons_succ, i64_w, i32_w]
                  rfl
                refine pure_ (i := 22) (N := some 96) (v := ?_) (a' := ?_) #[true, true, true, true, true, true, true, true, true, true, true, true, true, true, true, true, true, false, false, false, true, true, true, false, false, false, false, false] rfl rfl (by kernel_rfl) (fun _ _ _ h => h) (Or.inl ⟨by rfl, ?_⟩) ?_ ?_
                rotate_left
                · intro w'
                  go_simp
                  with_reducible rfl
                rotate_left
                · simp only [Act.put, List.setIfInBounds_toArray, List.set_cons_zero, List.set_cons_succ, i64_w, i32_w]
                  rfl
                refine pure_ (i := 23) (N := some 97) (v := ?_) (a' := ?_) #[true, true, true, true, true, true, true, true, true, true, true, true, true, true, true, true, true, false, false, false, true, true, true, true, false, false, false, false] rfl rfl (by kernel_rfl) (fun _ _ _ h => h) (Or.inl ⟨by rfl, ?_⟩) ?_ ?_
                rotate_left
                · intro w'
                  go_simp
                  with_reducible rfl
                rotate_left
                · simp only [Act.put, List.setIfInBounds_toArray, List.set_cons_zero, List.set_cons_succ, i64_w, i32_w]
                  rfl
                refine take_ (i := 17) (N := some 91) (v := ?_) (a' := ?_) #[true, true, true, true, true, true, true, true, true, true, true, true, true, true, true, true, true, true, false, false, true, true, true, true, false, false, false, false] rfl rfl (by kernel_rfl) (fun _ _ _ h => h) (Or.inl ⟨by rfl, ?_⟩) hHeld ?_ ?_
                rotate_left
                · rintro w' ⟨s0, s1, s2, s3⟩
                  go_simp
                  with_reducible rfl
                rotate_left
                · simp only [Act.put, List.setIfInBounds_toArray, List.set_cons_zero, List.set_cons_succ, i64_w, i32_w]
                  rfl
                refine pure_ (i := 18) (N := some 92) (v := ?_) (a' := ?_) #[true, true, true, true, true, true, true, true, true, true, true, true, true, true, true, true, true, true, true, false, true, true, true, true, false, false, false, false] rfl rfl (by kernel_rfl) (fun _ _ _ h => h) (Or.inl ⟨by rfl, ?_⟩) ?_ ?_
                rotate_left
                · intro w'
                  go_simp
                  with_reducible rfl
                rotate_left
                · simp only [Act.put, List.setIfInBounds_toArray, List.set_cons_zero, List.set_cons_succ, i64_w, i32_w]
                  rfl
                refine take_ (i := 19) (N := some 93) (v := ?_) (a' := ?_) #[true, true, true, true, true, true, true, true, true, true, true, true, true, true, true, true, true, true, true, true, true, true, true, true, false, false, false, false] rfl rfl (by kernel_rfl) (fun _ _ _ h => h) (Or.inl ⟨by rfl, ?_⟩) hHeld ?_ ?_
                rotate_left
                · rintro w' ⟨s0, s1, s2, s3⟩
                  go_simp
                  with_reducible rfl
                rotate_left
                · simp only [Act.put, List.setIfInBounds_toArray, List.set_cons_zero, List.set_cons_succ, i64_w, i32_w]
                  rfl
                refine take_ (i := 24) (N := some 98) (v := ?_) (a' := ?_) #[true, true, true, true, true, true, true, true, true, true, true, true, true, true, true, true, true, true, true, true, true, true, true, true, true, false, false, false] rfl rfl (by kernel_rfl) (fun _ _ _ h => h) (Or.inl ⟨by rfl, ?_⟩) hHeld ?_ ?_
                rotate_left
                · rintro w' ⟨s0, s1, s2, s3⟩
                  go_simp
                  with_reducible rfl
                rotate_left
                · simp only [Act.put, List.setIfInBounds_toArray, List.set_cons_zero, List.set_cons_succ, i64_w, i32_w]
                  rfl
                refine pure_ (i := 25) (N := some 99) (v := ?_) (a' := ?_) #[true, true, true, true, true, true, true, true, true, true, true, true, true, true, true, true, true, true, true, true, true, true, true, true, true, true, false, false] rfl rfl (by kernel_rfl) (fun _ _ _ h => h) (Or.inl ⟨by rfl, ?_⟩) ?_ ?_
                rotate_left
                · intro w'
                  go_simp
                  with_reducible rfl
                rotate_left
                · simp only [Act.put, List.setIfInBounds_toArray, List.set_cons_zero, List.set_cons_succ, i64_w, i32_w]
                  rfl
                refine take_ (i := 26) (N := some 100) (v := ?_) (a' := ?_) #[true, true, true, true, true, true, true, true, true, true, true, true, true, true, true, true, true, true, true, true, true, true, true, true, true, true, true, false] rfl rfl (by kernel_rfl) (fun _ _ _ h => h) (Or.inl ⟨by rfl, ?_⟩) hHeld ?_ ?_
                rotate_left
                · rintro w' ⟨s0, s1, s2, s3⟩
                  go_simp
                  with_reducible rfl
                rotate_left
                · simp only [Act.put, List.setIfInBounds_toArray, List.set_cons_zero, List.set_cons_succ, i64_w, i32_w]
                  rfl
                refine last_ (i := 27) (N := some 101) #[true, true, true, true, true, true, true, true, true, true, true, true, true, true, true, true, true, true, true, true, true, true, true, true, true, true, true, true] rfl rfl (by kernel_rfl) (by decide) (fun K hK => ?_)
                refine goes_ Tryd.func127 (by kernel_rfl) rfl #[.pointer (some ⟨g9 + 1, 0, none⟩), .int .i64 i, .int .i64 (wrap64 (4 + (wrap64 (↑i + 1)).tmod 4)), .int .i64 (wrap64 (8 + (wrap64 (↑i + 2)).tmod 4)), .int .i64 (wrap64 (12 + (wrap64 (↑i + 3)).tmod 4)), .int .u32 (el M z1), .int .u32 (el M z2)] (by rfl) rfl rfl (by simp only [List.map_toArray, List.map_cons, List.map_nil]; rfl) ?_
                rw [r1, r2, r3, q1, q2, q3]
                with_reducible refine (mix_any (g9 + 1) X hXL i b c d hi16 hb16 hc16 hd16 (el M z1) (el M z2) wr.drew hv').mono ?_
                rintro e w5 ⟨rfl, hA5, hO5⟩
                refine ⟨_, rfl, ?_⟩
                refine hK.out _ _ ?_
                clear hK K
                refine norm_ (a' := ?_) ?_ ?_
                rotate_left
                · show Act.put _ (some 101) _ = _
                  simp only [Act.put, List.setIfInBounds_toArray, List.set_cons_zero, List.set_cons_succ, i64_w, i32_w]
                  rfl
                refine done_ (by kernel_rfl) ?_
                have hbl : Below (g9 + 1) wr w5 := ((Below.refl (g9 + 1) wr).drew).trans (hO5.below (Nat.le_refl _))
                have hz5 : Arr .u8 128 w5 gz (zI r) := (hO5.block gz hgz').trans hzj
                have C5 := CJ.setV hbl hA5
                clear q1 q2 q3 q4 q5 q6 r1 r2 r3 cz1 cz2 cm1 cm2
                go_wp2
                go_roundw
                case rel =>
                  refine ⟨i + 1, by omega, by go_num, ?_, hz5⟩
                  rw [half2, HX.out, HB.out, HC.out, HD.out, HP.out, HQ.out, HZ1.out, HZ2.out]
                  exact C5
                case measure => simp [intOf]; omega
              · obtain rfl : i = 4 := by omega
                go_wp2
                go_roundw
                case rel =>
                  refine ⟨r + 1, by omega, by go_num, ?_⟩
                  rw [roundsI, HU.out, HY.out]
                  exact CJ
                case measure => simp [intOf]; omega
      · obtain rfl : r = 10 := by omega
        obtain ⟨wp, hwp⟩ : ∃ wp, wr = wp := ⟨_, rfl⟩
        rw [hwp] at CR ⊢
        clear hwp
        obtain ⟨V, hV⟩ : ∃ V, roundsI M S0 10 = V := ⟨_, rfl⟩
        have hVL : V.length = 16 := by rw [← hV, roundsI_length]; exact hSL
        rw [hV] at CR
        have HV := Asd.mk hV
        clear hV
        go_wp2_with fail
        go_loopw [15, 104] (fun _ v wr => ∃ k : Nat, k ≤ 8 ∧ v = .int .i64 k ∧ CW w wr g9 (finI H V k) (List.replicate 8 0) M V) (fun _ v _ => 8 - (intOf v).toNat)
        case atStart => exact ⟨0, by omega, rfl, CR⟩
        case round =>
          obtain ⟨k, hk8, rfl, CK⟩ := hrel
          by_cases hlt : k < 8
          · obtain ⟨X, hX⟩ : ∃ X, finI H V k = X := ⟨_, rfl⟩
            have hXL : X.length = 8 := by rw [← hX, finI_length]; exact HH
            rw [hX] at CK
            have HX := Asd.mk hX
            clear hX
            obtain ⟨k8, hk8'⟩ : ∃ k8, k + 8 = k8 := ⟨_, rfl⟩
            have h16 : k8 < 16 := by omega
            have j0 : (k : Int) < 8 := by omega
            have j1 : (k : Int) < 16 := by omega
            have j2 : (k8 : Int) < 16 := by omega
            have ch := CK.h.cell k (by omega)
            have cv1 := CK.v.cell k (by omega)
            have cv2 := CK.v.cell k8 (by omega)
            have fh := CK.h.frozen k
            have q1 := w64_plus 8 k k8 (by omega) (by omega) (by omega)
            have HK := Asd.mk hk8'
            clear hk8'
            go_wp2_with fail
            refine start_ (n := 14) (S := fun w' => w'.cell? ⟨w.heap.size, k, none⟩ = some (.int .u32 (el X k)) ∧ w'.cell? ⟨g9 + 1, k, none⟩ = some (.int .u32 (el V k)) ∧ w'.cell? ⟨g9 + 1, k8, none⟩ = some (.int .u32 (el V k8))) (ds := [13]) #[false, false, false, false, false, false, false, false, false, false, false, false, false, false] (by kernel_rfl) rfl rfl ⟨ch, cv1, cv2⟩ (fun hHeld => ?_)
            refine pure_ (i := 0) (N := some 107) (v := ?_) (a' := ?_) #[true, false, false, false, false, false, false, false, false, false, false, false, false, false] rfl rfl (by kernel_rfl) (fun _ _ _ h => h) (Or.inl ⟨by rfl, ?_⟩) ?_ ?_
            rotate_left
            · intro w'
              go_simp
              with_reducible rfl
            rotate_left
            · simp only [Act.put, List.setIfInBounds_toArray, List.set_cons_zero, List.set_cons_succ, i64_w, i32_w]
              rfl
            refine pure_ (i := 1) (N := some 108) (v := ?_) (a' := ?_) #[true, true, false, false, false, false, false, false, false, false, false, false, false, false] rfl rfl (by kernel_rfl) (fun _ _ _ h => h) (Or.inl ⟨by rfl, ?_⟩) ?_ ?_
            rotate_left
            · intro w'
              go_simp
              with_reducible rfl
            rotate_left
            · simp only [Act.put, List.setIfInBounds_toArray, List.set_cons_zero, List.set_cons_succ, i64_w, i32_w]
              rfl
            refine pure_ (i := 3) (N := some 110) (v := ?_) (a' := ?_) #[true, true, false, true, false, false, false, false, false, false, false, false, false, false] rfl rfl (by kernel_rfl) (fun _ _ _ h => h) (Or.inl ⟨by rfl, ?_⟩) ?_ ?_
            rotate_left
            · intro w'
              go_simp
              with_reducible rfl
            rotate_left
            · simp only [Act.put, List.setIfInBounds_toArray, List.set_cons_zero, List.set_cons_succ, i64_w, i32_w]
              rfl
            refine pure_ (i := 4) (N := some 111) (v := ?_) (a' := ?_) #[true, true, false, true, true, false, false, false, false, false, false, false, false, false] rfl rfl (by kernel_rfl) (fun _ _ _ h => h) (Or.inl ⟨by rfl, ?_⟩) ?_ ?_
            rotate_left
            · intro w'
              go_simp
              with_reducible rfl
            rotate_left
            · simp only [Act.put, List.setIfInBounds_toArray, List.set_cons_zero, List.set_cons_succ, i64_w, i32_w]
              rfl
            refine pure_ (i := 6) (N := some 113) (v := ?_) (a' := ?_) #[true, true, false, true, true, false, true, false, false, false, false, false, false, false] rfl rfl (by kernel_rfl) (fun _ _ _ h => h) (Or.inl ⟨by rfl, ?_⟩) ?_ ?_
            rotate_left
            · intro w'
              go_simp
              with_reducible rfl
            rotate_left
            · simp only [Act.put, List.setIfInBounds_toArray, List.set_cons_zero, List.set_cons_succ, i64_w, i32_w]
              rfl
            refine pure_ (i := 7) (N := some 114) (v := ?_) (a' := ?_) #[true, true, false, true, true, false, true, true, false, false, false, false, false, false] rfl rfl (by kernel_rfl) (fun _ _ _ h => h) (Or.inl ⟨by rfl, ?_⟩) ?_ ?_
            rotate_left
            · intro w'
              go_simp
              with_reducible rfl
            rotate_left
            · simp only [Act.put, List.setIfInBounds_toArray, List.set_cons_zero, List.set_cons_succ, i64_w, i32_w]
              rfl
            refine pure_ (i := 8) (N := some 115) (v := ?_) (a' := ?_) #[true, true, false, true, true, false, true, true, true, false, false, false, false, false] rfl rfl (by kernel_rfl) (fun _ _ _ h => h) (Or.inl ⟨by rfl, ?_⟩) ?_ ?_
            rotate_left
            · intro w'
              go_simp
              with_reducible rfl
            rotate_left
            · simp only [Act.put, List.setIfInBounds_toArray, List.set_cons_zero, List.set_cons_succ, i64_w, i32_w]
              rfl
            refine take_ (i := 2) (N := some 109) (v := ?_) (a' := ?_) #[true, true, true, true, true, false, true, true, true, false, false, false, false, false] rfl rfl (by kernel_rfl) (fun _ _ _ h => h) (Or.inl ⟨by rfl, ?_⟩) hHeld ?_ ?_
            rotate_left
            · rintro w' ⟨s0, s1, s2⟩
              go_simp
              with_reducible rfl
            rotate_left
            · simp only [Act.put, List.setIfInBounds_toArray, List.set_cons_zero, List.set_cons_succ, i64_w, i32_w]
              rfl
            refine take_ (i := 5) (N := some 112) (v := ?_) (a' := ?_) #[true, true, true, true, true, true, true, true, true, false, false, false, false, false] rfl rfl (by kernel_rfl) (fun _ _ _ h => h) (Or.inl ⟨by rfl, ?_⟩) hHeld ?_ ?_
            rotate_left
            · rintro w' ⟨s0, s1, s2⟩
              go_simp
              with_reducible rfl
            rotate_left
            · simp only [Act.put, List.setIfInBounds_toArray, List.set_cons_zero, List.set_cons_succ, i64_w, i32_w]
              rfl
            refine take_ (i := 9) (N := some 116) (v := ?_) (a' := ?_) #[true, true, true, true, true, true, true, true, true, true, false, false, false, false] rfl rfl (by kernel_rfl) (fun _ _ _ h => h) (Or.inl ⟨by rfl, ?_⟩) hHeld ?_ ?_
            rotate_left
            · rintro w' ⟨s0, s1, s2⟩
              go_simp
              with_reducible rfl
            rotate_left
            · simp only [Act.put, List.setIfInBounds_toArray, List.set_cons_zero, List.set_cons_succ, i64_w, i32_w]
              rfl
            refine pure_ (i := 10) (N := some 117) (v := ?_) (a' := ?_) #[true, true, true, true, true, true, true, true, true, true, true, false, false, false] rfl rfl (by kernel_rfl) (fun _ _ _ h => h) (Or.inl ⟨by rfl, ?_⟩) ?_ ?_
            rotate_left
            · intro w'
              go_simp
              with_reducible rfl
            rotate_left
            · simp only [Act.put, List.setIfInBounds_toArray, List.set_cons_zero, List.set_cons_succ, i64_w, i32_w]
              rfl
            refine pure_ (i := 11) (N := some 118) (v := ?_) (a' := ?_) #[true, true, true, true, true, true, true, true, true, true, true, true, false, false] rfl rfl (by kernel_rfl) (fun _ _ _ h => h) (Or.inl ⟨by rfl, ?_⟩) ?_ ?_
            rotate_left
            · intro w'
              go_simp
              with_reducible rfl
            rotate_left
            · simp only [Act.put, List.setIfInBounds_toArray, List.set_cons_zero, List.set_cons_succ, i64_w, i32_w]
              rfl
            refine pure_ (i := 12) (N := some 119) (v := ?_) (a' := ?_) #[true, true, true, true, true, true, true, true, true, true, true, true, true, false] rfl rfl (by kernel_rfl) (fun _ _ _ h => h) (Or.inl ⟨by rfl, ?_⟩) ?_ ?_
            rotate_left
            · intro w'
              go_simp
              with_reducible rfl
            rotate_left
            · simp only [Act.put, List.setIfInBounds_toArray, List.set_cons_zero, List.set_cons_succ, i64_w, i32_w]
              rfl
            refine last_ (i := 13) (N := none) #[true, true, true, true, true, true, true, true, true, true, true, true, true, true] rfl rfl (by kernel_rfl) (by decide) (fun K hK => ?_)
            refine skip_ (w1 := ?_) (by rfl) rfl ?_ ?_
            rotate_left
            · go_simp
              rfl
            refine hK.out _ _ ?_
            clear hK K
            refine done_ (by kernel_rfl) ?_
            obtain ⟨w9, hw9⟩ : ∃ w9, (wr.setCell { block := w.heap.size, off := k } (.int .u32 (Go.bits BinOp.xor .u32 (el X k) (Go.bits BinOp.xor .u32 (el V k) (el V k8))))).drew = w9 := ⟨_, rfl⟩
            rw [hw9]
            obtain ⟨A9, O9⟩ := step_arr CK.h k _ hw9
            have C9 := CK.setH O9 A9
            clear hw9 q1 ch cv1 cv2 fh
            go_wp2
            go_roundw
            case rel =>
              refine ⟨k + 1, by omega, by go_num, ?_⟩
              rw [finI, HX.out, HK.out]
              exact C9
            case measure => simp [intOf]; omega
          · obtain rfl : k = 8 := by omega
            obtain ⟨X, hX⟩ : ∃ X, finI H V 8 = X := ⟨_, rfl⟩
            have hXL : X.length = 8 := by rw [← hX, finI_length]; exact HH
            rw [hX] at CK
            have HX := Asd.mk hX
            clear hX
            have hi98 : (Tryd.prog.info? 98).map (·.size) = some ((X.map (Value.int .u32)).toArray).size := by
              rw [show ((X.map (Value.int .u32)).toArray).size = 8 by simp [hXL]]; kernel_rfl
            have ho8 := ones_u32 X
            have hz8' : (((List.replicate 8 (0 : Int)).map (Value.int .u32)).toArray).size = ((X.map (Value.int .u32)).toArray).size := by simp [hXL]
            go_wp2_with (first | refine wpList_load_row rfl 98 _ rfl w.heap.size rfl 98 _ (0, 0) _ CK.h Tryd.underlying98 rfl hi98 ?_ | refine wpList_store_row rfl 98 _ _ rfl (w.heap.size + 1) _ rfl rfl 98 _ CK.r hi98 hz8' ho8 ?_)
            have hF := setRow_heap wr (w.heap.size + 1) _ (X.map (Value.int .u32)).toArray 98 (0, 0) CK.r
            refine bodyPost_ret (results_cell_row rfl _ _ (w.heap.size + 1) 98 _ (0, 0) _ rfl hF Tryd.underlying98 rfl hi98) rfl ?_
            have hcomp : compressI H s n last = X := by
              unfold compressI
              rw [HM.out, HS.out, HV.out, HX.out]
            rw [← hH, hcomp]
            exact ⟨rfl, below_setRow CK.below (by omega) _⟩
#print axioms compress_any
end Go.Proofs.YtdgejkiackeieaaDoor
