/- Texts of this claim, joined: GLSeals, WireOrd, GramO, GLOrders. -/
import Derived.Test.YtdgejkiackeieaaDoorGB2
import GoSem.Op.String
import Derived.Deep.QuietTactic
import Derived.BigQuiet
section
set_option linter.unusedVariables false
set_option linter.unusedSimpArgs false
/- The walk of GramSeals. -/
set_option linter.unusedVariables false
set_option linter.unusedSimpArgs false
namespace Go.Proofs.YtdgejkiackeieaaDoor.Gm
open Go.RowKit Go.Proofs.YtdgejkiackeieaaDoor Go.Proofs.YtdgejkiackeieaaDoor.Wr Go.Proofs.YtdgejkiackeieaaDoorW.PrintWords Go.Proofs.YtdgejkiackeieaaDoorW.PrintMore Go.Proofs.YtdgejkiackeieaaDoorW.PrintLast
/-- The telegram, the sealed one, and its copy. -/
structure Th (w0 w : World) (g : Nat) (a b c d : Int) (t : ByteArray) (h : Nat) (T : ByteArray) (k : Nat) : Prop where
  one : Gl w0 w g a b c d t
  two : Gl w0 w h a b c d T
  three : Gl w0 w k a b c d t
theorem Th.more {w0 w w' : World} {g : Nat} {a b c d : Int} {t : ByteArray} {h : Nat} {T : ByteArray} {k : Nat} (H : Th w0 w g a b c d t h T k) (hb : Below w.heap.size w w') : Th w0 w' g a b c d t h T k := ⟨H.one.more hb, H.two.more hb, H.three.more hb⟩
set_option maxHeartbeats 8000000 in
set_option maxRecDepth 100000 in
theorem GramSeals_any (s : ByteArray) (a b c d : Int) (t : ByteArray) (w : World) (ha : InR a) (hb : InR b) (hc : InR c) (hd : InR d) (hM : MaxW w) (hD : DigW w) (hL : LimW w) (h4 : 4 ≤ w.heap.size) : Calls Tryd.prog 8 #[.string s, .agg #[.int .i64 a, .int .i64 b, .int .i64 c, .int .i64 d, .string t]] w fun e w' => e = .returned (.bool true) ∧ Below w.heap.size w w' := by
  have HM := Lib.hid hM; have HD := Lib.hid hD; have HLM := Lib.hid hL; have HA := Lib.hid ha; have HB := Lib.hid hb; have HC := Lib.hid hc; have HDD := Lib.hid hd
  clear hM hD hL ha hb hc hd
  go_enter Tryd.func8, Tryd.ntmps8
  go_wp2_with fail
  obtain ⟨W, hW⟩ : ∃ W, (w.alloc (Obj.cells #[Value.int .i64 a, Value.int .i64 b, Value.int .i64 c, Value.int .i64 d, Value.string t] 34)) = W := ⟨_, rfl⟩
  obtain ⟨g, hg⟩ : ∃ g, w.heap.size = g := ⟨_, rfl⟩
  have G0 : Hid (Gl w W g a b c d t) := Lib.hid (by rw [← hW, ← hg]; exact gl_new w a b c d t)
  rw [hW]
  rw [hg]
  clear hW hg
  refine (small24_any W (HM.out.below G0.out.below) (HD.out.below G0.out.below) (HLM.out.below G0.out.below h4 h4) (Nat.le_trans h4 G0.out.below.size)).mono ?_
  rintro e w1 ⟨rfl, b1⟩
  have G1 := Lib.hid (G0.out.more b1); clear b1
  have c0 := blk_cell G1.out.blk 0; have c1 := blk_cell G1.out.blk 1; have c2 := blk_cell G1.out.blk 2; have c3 := blk_cell G1.out.blk 3; have c4 := blk_cell G1.out.blk 4
  go_wp2_with fail
  refine (short_any s t ⟨#[]⟩ w1).mono ?_
  by_cases hsh : s.size ≤ 300 ∧ t.size ≤ 300 ∧ (⟨#[]⟩ : ByteArray).size ≤ 300
  · rw [decide_eq_true hsh]
    rintro e w2 ⟨rfl, rfl⟩
    obtain ⟨hs1, hs2, _⟩ := hsh
    go_wp2_with fail
    clear c0 c1 c2 c3 c4
    refine (Seal_any s a b c d t w2 (by omega) HA.out HB.out HC.out HDD.out (HM.out.below G1.out.below) (HD.out.below G1.out.below)).mono ?_
    obtain ⟨TG, hTG⟩ : ∃ TG, tagB s a b c d = TG := ⟨_, rfl⟩
    have hTz : TG.size = 8 := by rw [← hTG]; exact tag_size _ _ _ _ _
    rw [hTG]
    have HTG := Lib.hid hTG; have HTZ := Lib.hid hTz
    clear hTG hTz
    rintro e w3 ⟨rfl, b3⟩
    have G3 := Lib.hid (G1.out.more b3); clear b3
    go_upto_region 6 with fail
    obtain ⟨h, hh⟩ : ∃ h, w3.heap.size = h := ⟨_, rfl⟩
    obtain ⟨k, hk⟩ : ∃ k, h + 1 = k := ⟨_, rfl⟩
    obtain ⟨W4, hW4⟩ : ∃ W4, ((w3.alloc (Obj.cells #[Value.int .i64 a, Value.int .i64 b, Value.int .i64 c, Value.int .i64 d, Value.string TG] 34)).alloc (Obj.cells #[Value.int .i64 a, Value.int .i64 b, Value.int .i64 c, Value.int .i64 d, Value.string TG] 34)) = W4 := ⟨_, rfl⟩
    have B4 : Below w3.heap.size w3 W4 := by rw [← hW4]; exact ((Below.refl _ _).alloc (Nat.le_refl _) _).alloc (by simp) _
    have N1 : W4.heap[h]? = some (.cells #[Value.int .i64 a, Value.int .i64 b, Value.int .i64 c, Value.int .i64 d, Value.string TG] 34 (0, 0)) := by
      rw [← hW4, ← hh]; exact (((Below.refl _ (w3.alloc _)).alloc (Nat.le_refl _) _).block w3.heap.size (by simp)).trans (heap_alloc_new w3 _)
    have N2 : W4.heap[k]? = some (.cells #[Value.int .i64 a, Value.int .i64 b, Value.int .i64 c, Value.int .i64 d, Value.string TG] 34 (0, 0)) := by
      rw [← hW4, ← hk, ← hh]; simpa using heap_alloc_new (w3.alloc _) _
    have hge : w.heap.size ≤ h := by rw [← hh]; exact G3.out.below.size
    have G4 := G3.out.more B4
    rw [hW4, hh, hk]
    have hne : g ≠ k := by have := G3.out.lt; omega
    have hne2 : h ≠ k := by omega
    have hgek : w.heap.size ≤ k := by omega
    clear hW4 hh hk B4
    have HN1 := Lib.hid N1; have HN2 := Lib.hid N2; have HG4 := Lib.hid G4; have HNE := Lib.hid hne; have HNE2 := Lib.hid hne2
    clear N1 N2 G4 hne hne2
    have c4 := blk_cell HG4.out.blk 4
    have k4 := blk_cell HN2.out 4
    have f4 := blk_frozen HN2.out 4
    go_wp2_with fail
    clear c4 k4 f4
    have T5 : Hid (Th w (World.setCell W4 ⟨k, 4, none⟩ (.string t)) g a b c d t h TG k) := Lib.hid (by
      have e1 := blk_far HG4.out.blk (p := ⟨k, 4, none⟩) HNE.out (.string t)
      have e2 := blk_far HN1.out (p := ⟨k, 4, none⟩) HNE2.out (.string t)
      have e3 := blk_set HN2.out 4 (.string t)
      have e4 : Below w.heap.size w (World.setCell W4 ⟨k, 4, none⟩ (.string t)) := below_set HG4.out.below hgek
      exact ⟨⟨e1, e4, G0.out.ge⟩, ⟨e2, e4, hge⟩, ⟨e3, e4, hgek⟩⟩)
    obtain ⟨W5, hW5⟩ : ∃ W5, World.setCell W4 ⟨k, 4, none⟩ (.string t) = W5 := ⟨_, rfl⟩
    rw [hW5] at T5 ⊢
    clear hW5 HG4 HN1 HN2
    have hcl' : (coreB a b c d).length ≤ 36 := core_len a b c d HA.out HB.out HC.out HDD.out
    have htl := (textB_length s.data.toList).2
    rw [len_size] at htl
    have hml : (msgL s a b c d).length ≤ 10000 := by
      unfold msgL
      rw [List.length_append, List.length_append]
      have : (textB [103, 114, 97, 109]).length = 6 := rfl
      omega
    have HML := Lib.hid hml
    obtain ⟨T1, hT1⟩ : ∃ T1, mkB (textB [103, 114, 97, 109]) = T1 := ⟨_, rfl⟩
    obtain ⟨T2, hT2⟩ : ∃ T2, mkB (textB s.data.toList) = T2 := ⟨_, rfl⟩
    obtain ⟨J1, hI1⟩ : ∃ T3, mkB (intB a) = T3 := ⟨_, rfl⟩
    obtain ⟨J2, hI2⟩ : ∃ T3, mkB (intB b) = T3 := ⟨_, rfl⟩
    obtain ⟨J3, hI3⟩ : ∃ T3, mkB (intB c) = T3 := ⟨_, rfl⟩
    obtain ⟨J4, hI4⟩ : ∃ T3, mkB (intB d) = T3 := ⟨_, rfl⟩
    have hsum : T1 ++ T2 ++ J1 ++ J2 ++ J3 ++ J4 = mkB (msgL s a b c d) := by
      rw [← hT1, ← hT2, ← hI1, ← hI2, ← hI3, ← hI4, mkB_append, mkB_append, mkB_append, mkB_append, mkB_append]
      unfold msgL coreB; simp only [List.append_assoc]
    have z1 : T1.size = 6 := by rw [← hT1]; rfl
    have z2 : T2.size ≤ 5000 := by rw [← hT2, mkB_size]; omega
    have y1 : J1.size ≤ 9 := by rw [← hI1, mkB_size]; exact intB_length a HA.out
    have y2 : J2.size ≤ 9 := by rw [← hI2, mkB_size]; exact intB_length b HB.out
    have y3 : J3.size ≤ 9 := by rw [← hI3, mkB_size]; exact intB_length c HC.out
    have y4 : J4.size ≤ 9 := by rw [← hI4, mkB_size]; exact intB_length d HDD.out
    have H1 := Lib.hid hT1; have H2 := Lib.hid hT2; have I1 := Lib.hid hI1; have I2 := Lib.hid hI2; have I3 := Lib.hid hI3; have I4 := Lib.hid hI4; have HS := Lib.hid hsum
    clear hml hcl' htl hT1 hT2 hI1 hI2 hI3 hI4 hsum
    obtain ⟨U, hU⟩ : ∃ U, (⟨(sumBytes (mkB (msgL s a b c d))).toArray⟩ : ByteArray) = U := ⟨_, rfl⟩
    have hUz : U.size = 32 := by rw [← hU]; show (sumBytes (mkB (msgL s a b c d))).toArray.size = 32; rw [List.size_toArray, sumBytes_length]
    have hUt : U.extract 0 8 = TG := by rw [← hU, extract_take]; exact HTG.out
    have HU := Lib.hid hU; have HUT := Lib.hid hUt; have HUZ := Lib.hid hUz
    clear hU hUt hUz
    go_wp2_with fail
    refine start_ (n := 22) (S := fun w' => Th w w' g a b c d t h TG k) (ds := []) #[false, false, false, false, false, false, false, false, false, false, false, false, false, false, false, false, false, false, false, false, false, false] (by kernel_rfl) rfl rfl (T5.out.more (below_drew (Below.refl _ _))) (fun hHeld => ?_)
    refine pure_ (i := 1) (N := some 24) (v := ?_) (a' := ?_) #[false, true, false, false, false, false, false, false, false, false, false, false, false, false, false, false, false, false, false, false, false, false] rfl rfl (by kernel_rfl) (fun _ _ _ h => h) (Or.inl ⟨by rfl, ?_⟩) ?_ ?_
    rotate_left
    · intro w'
      go_simp
      with_reducible rfl
    rotate_left
    · simp only [Act.put, List.setIfInBounds_toArray, List.set_cons_zero, List.set_cons_succ, i64_w, i32_w]
      rfl
    refine pure_ (i := 4) (N := some 27) (v := ?_) (a' := ?_) #[false, true, false, false, true, false, false, false, false, false, false, false, false, false, false, false, false, false, false, false, false, false] rfl rfl (by kernel_rfl) (fun _ _ _ h => h) (Or.inl ⟨by rfl, ?_⟩) ?_ ?_
    rotate_left
    · intro w'
      go_simp
      with_reducible rfl
    rotate_left
    · simp only [Act.put, List.setIfInBounds_toArray, List.set_cons_zero, List.set_cons_succ, i64_w, i32_w]
      rfl
    refine take_ (i := 5) (N := some 28) (v := ?_) (a' := ?_) #[false, true, false, false, true, true, false, false, false, false, false, false, false, false, false, false, false, false, false, false, false, false] rfl rfl (by kernel_rfl) (fun _ _ _ h => h) (Or.inl ⟨by rfl, ?_⟩) hHeld ?_ ?_
    rotate_left
    · intro w' hL'
      have o0 := blk_cell hL'.one.blk 0
      have o1 := blk_cell hL'.one.blk 1
      have o2 := blk_cell hL'.one.blk 2
      have o3 := blk_cell hL'.one.blk 3
      have o4 := blk_cell hL'.one.blk 4
      go_simp
      with_reducible rfl
    rotate_left
    · simp only [Act.put, List.setIfInBounds_toArray, List.set_cons_zero, List.set_cons_succ, i64_w, i32_w]
      rfl
    refine pure_ (i := 8) (N := some 31) (v := ?_) (a' := ?_) #[false, true, false, false, true, true, false, false, true, false, false, false, false, false, false, false, false, false, false, false, false, false] rfl rfl (by kernel_rfl) (fun _ _ _ h => h) (Or.inl ⟨by rfl, ?_⟩) ?_ ?_
    rotate_left
    · intro w'
      go_simp
      with_reducible rfl
    rotate_left
    · simp only [Act.put, List.setIfInBounds_toArray, List.set_cons_zero, List.set_cons_succ, i64_w, i32_w]
      rfl
    refine take_ (i := 9) (N := some 32) (v := ?_) (a' := ?_) #[false, true, false, false, true, true, false, false, true, true, false, false, false, false, false, false, false, false, false, false, false, false] rfl rfl (by kernel_rfl) (fun _ _ _ h => h) (Or.inl ⟨by rfl, ?_⟩) hHeld ?_ ?_
    rotate_left
    · intro w' hL'
      have o0 := blk_cell hL'.one.blk 0
      have o1 := blk_cell hL'.one.blk 1
      have o2 := blk_cell hL'.one.blk 2
      have o3 := blk_cell hL'.one.blk 3
      have o4 := blk_cell hL'.one.blk 4
      go_simp
      with_reducible rfl
    rotate_left
    · simp only [Act.put, List.setIfInBounds_toArray, List.set_cons_zero, List.set_cons_succ, i64_w, i32_w]
      rfl
    refine pure_ (i := 12) (N := some 35) (v := ?_) (a' := ?_) #[false, true, false, false, true, true, false, false, true, true, false, false, true, false, false, false, false, false, false, false, false, false] rfl rfl (by kernel_rfl) (fun _ _ _ h => h) (Or.inl ⟨by rfl, ?_⟩) ?_ ?_
    rotate_left
    · intro w'
      go_simp
      with_reducible rfl
    rotate_left
    · simp only [Act.put, List.setIfInBounds_toArray, List.set_cons_zero, List.set_cons_succ, i64_w, i32_w]
      rfl
    refine take_ (i := 13) (N := some 36) (v := ?_) (a' := ?_) #[false, true, false, false, true, true, false, false, true, true, false, false, true, true, false, false, false, false, false, false, false, false] rfl rfl (by kernel_rfl) (fun _ _ _ h => h) (Or.inl ⟨by rfl, ?_⟩) hHeld ?_ ?_
    rotate_left
    · intro w' hL'
      have o0 := blk_cell hL'.one.blk 0
      have o1 := blk_cell hL'.one.blk 1
      have o2 := blk_cell hL'.one.blk 2
      have o3 := blk_cell hL'.one.blk 3
      have o4 := blk_cell hL'.one.blk 4
      go_simp
      with_reducible rfl
    rotate_left
    · simp only [Act.put, List.setIfInBounds_toArray, List.set_cons_zero, List.set_cons_succ, i64_w, i32_w]
      rfl
    refine pure_ (i := 16) (N := some 39) (v := ?_) (a' := ?_) #[false, true, false, false, true, true, false, false, true, true, false, false, true, true, false, false, true, false, false, false, false, false] rfl rfl (by kernel_rfl) (fun _ _ _ h => h) (Or.inl ⟨by rfl, ?_⟩) ?_ ?_
    rotate_left
    · intro w'
      go_simp
      with_reducible rfl
    rotate_left
    · simp only [Act.put, List.setIfInBounds_toArray, List.set_cons_zero, List.set_cons_succ, i64_w, i32_w]
      rfl
    refine take_ (i := 17) (N := some 40) (v := ?_) (a' := ?_) #[false, true, false, false, true, true, false, false, true, true, false, false, true, true, false, false, true, true, false, false, false, false] rfl rfl (by kernel_rfl) (fun _ _ _ h => h) (Or.inl ⟨by rfl, ?_⟩) hHeld ?_ ?_
    rotate_left
    · intro w' hL'
      have o0 := blk_cell hL'.one.blk 0
      have o1 := blk_cell hL'.one.blk 1
      have o2 := blk_cell hL'.one.blk 2
      have o3 := blk_cell hL'.one.blk 3
      have o4 := blk_cell hL'.one.blk 4
      go_simp
      with_reducible rfl
    rotate_left
    · simp only [Act.put, List.setIfInBounds_toArray, List.set_cons_zero, List.set_cons_succ, i64_w, i32_w]
      rfl
    refine one_ (i := 0) (N := some 23) #[true, true, false, false, true, true, false, false, true, true, false, false, true, true, false, false, true, true, false, false, false, false] rfl rfl (by kernel_rfl) (by decide) (fun K hK => ?_)
    refine goes_ Tryd.func40 (by kernel_rfl) rfl #[.string ⟨#[103, 114, 97, 109]⟩] (by rfl) rfl rfl (by simp only [List.map_toArray, List.map_cons, List.map_nil]; rfl) ?_
    refine (Text_any ⟨#[103, 114, 97, 109]⟩ _ (HM.out.below hHeld.one.below) (by decide)).mono ?_
    rw [show mkB (textB (⟨#[103, 114, 97, 109]⟩ : ByteArray).data.toList) = T1 from H1.out]
    rintro e w' ⟨rfl, hb'⟩
    refine ⟨_, rfl, ?_⟩
    refine hK.out _ _ (hHeld.more hb') (fun hHeld => ?_)
    clear hK K
    refine norm_ (a' := ?_) ?_ ?_
    rotate_left
    · show Act.put _ (some 23) _ = _
      simp only [Act.put, List.setIfInBounds_toArray, List.set_cons_zero, List.set_cons_succ, i64_w, i32_w]
      rfl
    refine one_ (i := 2) (N := some 25) #[true, true, true, false, true, true, false, false, true, true, false, false, true, true, false, false, true, true, false, false, false, false] rfl rfl (by kernel_rfl) (by decide) (fun K hK => ?_)
    refine goes_ Tryd.func40 (by kernel_rfl) rfl #[.string s] (by rfl) rfl rfl (by simp only [List.map_toArray, List.map_cons, List.map_nil]; rfl) ?_
    refine (Text_any s _ (HM.out.below hHeld.one.below) (by omega)).mono ?_
    rw [H2.out]
    rintro e w' ⟨rfl, hb'⟩
    refine ⟨_, rfl, ?_⟩
    refine hK.out _ _ (hHeld.more hb') (fun hHeld => ?_)
    clear hK K
    refine norm_ (a' := ?_) ?_ ?_
    rotate_left
    · show Act.put _ (some 25) _ = _
      simp only [Act.put, List.setIfInBounds_toArray, List.set_cons_zero, List.set_cons_succ, i64_w, i32_w]
      rfl
    refine pure_ (i := 3) (N := some 26) (v := ?_) (a' := ?_) #[true, true, true, true, true, true, false, false, true, true, false, false, true, true, false, false, true, true, false, false, false, false] rfl rfl (by kernel_rfl) (fun _ _ _ h => h) (Or.inl ⟨by rfl, ?_⟩) ?_ ?_
    rotate_left
    · intro w'
      go_simp
      rw [if_neg (by omega)]
    rotate_left
    · simp only [Act.put, List.setIfInBounds_toArray, List.set_cons_zero, List.set_cons_succ, i64_w, i32_w]
      rfl
    refine one_ (i := 6) (N := some 29) #[true, true, true, true, true, true, true, false, true, true, false, false, true, true, false, false, true, true, false, false, false, false] rfl rfl (by kernel_rfl) (by decide) (fun K hK => ?_)
    refine goes_ Tryd.func41 (by kernel_rfl) rfl #[.int .i64 a] (by rfl) rfl rfl (by simp only [List.map_toArray, List.map_cons, List.map_nil]; rfl) ?_
    refine (Int_any a _ HA.out).mono ?_
    rw [I1.out]
    rintro e w' ⟨rfl, hb'⟩
    refine ⟨_, rfl, ?_⟩
    refine hK.out _ _ (hHeld.more hb') (fun hHeld => ?_)
    clear hK K
    refine norm_ (a' := ?_) ?_ ?_
    rotate_left
    · show Act.put _ (some 29) _ = _
      simp only [Act.put, List.setIfInBounds_toArray, List.set_cons_zero, List.set_cons_succ, i64_w, i32_w]
      rfl
    refine pure_ (i := 7) (N := some 30) (v := ?_) (a' := ?_) #[true, true, true, true, true, true, true, true, true, true, false, false, true, true, false, false, true, true, false, false, false, false] rfl rfl (by kernel_rfl) (fun _ _ _ h => h) (Or.inl ⟨by rfl, ?_⟩) ?_ ?_
    rotate_left
    · intro w'
      go_simp
      rw [if_neg (by first | omega | (simp only [ByteArray.size_append]; omega))]
    rotate_left
    · simp only [Act.put, List.setIfInBounds_toArray, List.set_cons_zero, List.set_cons_succ, i64_w, i32_w]
      rfl
    refine one_ (i := 10) (N := some 33) #[true, true, true, true, true, true, true, true, true, true, true, false, true, true, false, false, true, true, false, false, false, false] rfl rfl (by kernel_rfl) (by decide) (fun K hK => ?_)
    refine goes_ Tryd.func41 (by kernel_rfl) rfl #[.int .i64 b] (by rfl) rfl rfl (by simp only [List.map_toArray, List.map_cons, List.map_nil]; rfl) ?_
    refine (Int_any b _ HB.out).mono ?_
    rw [I2.out]
    rintro e w' ⟨rfl, hb'⟩
    refine ⟨_, rfl, ?_⟩
    refine hK.out _ _ (hHeld.more hb') (fun hHeld => ?_)
    clear hK K
    refine norm_ (a' := ?_) ?_ ?_
    rotate_left
    · show Act.put _ (some 33) _ = _
      simp only [Act.put, List.setIfInBounds_toArray, List.set_cons_zero, List.set_cons_succ, i64_w, i32_w]
      rfl
    refine pure_ (i := 11) (N := some 34) (v := ?_) (a' := ?_) #[true, true, true, true, true, true, true, true, true, true, true, true, true, true, false, false, true, true, false, false, false, false] rfl rfl (by kernel_rfl) (fun _ _ _ h => h) (Or.inl ⟨by rfl, ?_⟩) ?_ ?_
    rotate_left
    · intro w'
      go_simp
      rw [if_neg (by first | omega | (simp only [ByteArray.size_append]; omega))]
    rotate_left
    · simp only [Act.put, List.setIfInBounds_toArray, List.set_cons_zero, List.set_cons_succ, i64_w, i32_w]
      rfl
    refine one_ (i := 14) (N := some 37) #[true, true, true, true, true, true, true, true, true, true, true, true, true, true, true, false, true, true, false, false, false, false] rfl rfl (by kernel_rfl) (by decide) (fun K hK => ?_)
    refine goes_ Tryd.func41 (by kernel_rfl) rfl #[.int .i64 c] (by rfl) rfl rfl (by simp only [List.map_toArray, List.map_cons, List.map_nil]; rfl) ?_
    refine (Int_any c _ HC.out).mono ?_
    rw [I3.out]
    rintro e w' ⟨rfl, hb'⟩
    refine ⟨_, rfl, ?_⟩
    refine hK.out _ _ (hHeld.more hb') (fun hHeld => ?_)
    clear hK K
    refine norm_ (a' := ?_) ?_ ?_
    rotate_left
    · show Act.put _ (some 37) _ = _
      simp only [Act.put, List.setIfInBounds_toArray, List.set_cons_zero, List.set_cons_succ, i64_w, i32_w]
      rfl
    refine pure_ (i := 15) (N := some 38) (v := ?_) (a' := ?_) #[true, true, true, true, true, true, true, true, true, true, true, true, true, true, true, true, true, true, false, false, false, false] rfl rfl (by kernel_rfl) (fun _ _ _ h => h) (Or.inl ⟨by rfl, ?_⟩) ?_ ?_
    rotate_left
    · intro w'
      go_simp
      rw [if_neg (by first | omega | (simp only [ByteArray.size_append]; omega))]
    rotate_left
    · simp only [Act.put, List.setIfInBounds_toArray, List.set_cons_zero, List.set_cons_succ, i64_w, i32_w]
      rfl
    refine one_ (i := 18) (N := some 41) #[true, true, true, true, true, true, true, true, true, true, true, true, true, true, true, true, true, true, true, false, false, false] rfl rfl (by kernel_rfl) (by decide) (fun K hK => ?_)
    refine goes_ Tryd.func41 (by kernel_rfl) rfl #[.int .i64 d] (by rfl) rfl rfl (by simp only [List.map_toArray, List.map_cons, List.map_nil]; rfl) ?_
    refine (Int_any d _ HDD.out).mono ?_
    rw [I4.out]
    rintro e w' ⟨rfl, hb'⟩
    refine ⟨_, rfl, ?_⟩
    refine hK.out _ _ (hHeld.more hb') (fun hHeld => ?_)
    clear hK K
    refine norm_ (a' := ?_) ?_ ?_
    rotate_left
    · show Act.put _ (some 41) _ = _
      simp only [Act.put, List.setIfInBounds_toArray, List.set_cons_zero, List.set_cons_succ, i64_w, i32_w]
      rfl
    refine pure_ (i := 19) (N := some 42) (v := ?_) (a' := ?_) #[true, true, true, true, true, true, true, true, true, true, true, true, true, true, true, true, true, true, true, true, false, false] rfl rfl (by kernel_rfl) (fun _ _ _ h => h) (Or.inl ⟨by rfl, ?_⟩) ?_ ?_
    rotate_left
    · intro w'
      go_simp
      rw [if_neg (by first | omega | (simp only [ByteArray.size_append]; omega)), HS.out]
    rotate_left
    · simp only [Act.put, List.setIfInBounds_toArray, List.set_cons_zero, List.set_cons_succ, i64_w, i32_w]
      rfl
    refine one_ (i := 20) (N := some 43) #[true, true, true, true, true, true, true, true, true, true, true, true, true, true, true, true, true, true, true, true, true, false] rfl rfl (by kernel_rfl) (by decide) (fun K hK => ?_)
    refine goes_ Tryd.func31 (by kernel_rfl) rfl #[.string (mkB (msgL s a b c d))] (by rfl) rfl rfl (by simp only [List.map_toArray, List.map_cons, List.map_nil]; rfl) ?_
    refine (sum_any (mkB (msgL s a b c d)) (by rw [mkB_size]; exact Nat.le_trans HML.out (by decide)) _ (HD.out.below hHeld.one.below).ok (HD.out.below hHeld.one.below).two).mono ?_
    rw [HU.out]
    rintro e w' ⟨rfl, hb'⟩
    refine ⟨_, rfl, ?_⟩
    refine hK.out _ _ (hHeld.more hb') (fun hHeld => ?_)
    clear hK K
    refine norm_ (a' := ?_) ?_ ?_
    rotate_left
    · show Act.put _ (some 43) _ = _
      simp only [Act.put, List.setIfInBounds_toArray, List.set_cons_zero, List.set_cons_succ, i64_w, i32_w]
      rfl
    refine pure_ (i := 21) (N := some 8) (v := ?_) (a' := ?_) #[true, true, true, true, true, true, true, true, true, true, true, true, true, true, true, true, true, true, true, true, true, true] rfl rfl (by kernel_rfl) (fun _ _ _ h => h) (Or.inl ⟨by rfl, ?_⟩) ?_ ?_
    rotate_left
    · intro w'
      go_simp
      with_reducible rfl
    rotate_left
    · simp only [Act.put, List.setIfInBounds_toArray, List.set_cons_zero, List.set_cons_succ, i64_w, i32_w]
      rfl
    refine done_ (by kernel_rfl) ?_
    clear HS H1 H2 I1 I2 I3 I4 HU z1 z2 y1 y2 y3 y4
    go_wp2_with fail
    refine start_ (n := 22) (S := fun w' => Th w w' g a b c d t h TG k) (ds := []) #[false, false, false, false, false, false, false, false, false, false, false, false, false, false, false, false, false, false, false, false, false, false] (by kernel_rfl) rfl rfl (hHeld.more (below_drew (Below.refl _ _))) (fun hHeld => ?_)
    refine take_ (i := 0) (N := some 44) (v := ?_) (a' := ?_) #[true, false, false, false, false, false, false, false, false, false, false, false, false, false, false, false, false, false, false, false, false, false] rfl rfl (by kernel_rfl) (fun _ _ _ h => h) (Or.inl ⟨by rfl, ?_⟩) hHeld ?_ ?_
    rotate_left
    · intro w' hL'
      have r0 := blk_cell hL'.three.blk 0
      have r1 := blk_cell hL'.three.blk 1
      have r2 := blk_cell hL'.three.blk 2
      have r3 := blk_cell hL'.three.blk 3
      have r4 := blk_cell hL'.three.blk 4
      go_simp
      with_reducible rfl
    rotate_left
    · simp only [Act.put, List.setIfInBounds_toArray, List.set_cons_zero, List.set_cons_succ, i64_w, i32_w]
      rfl
    refine take_ (i := 1) (N := some 45) (v := ?_) (a' := ?_) #[true, true, false, false, false, false, false, false, false, false, false, false, false, false, false, false, false, false, false, false, false, false] rfl rfl (by kernel_rfl) (fun _ _ _ h => h) (Or.inl ⟨by rfl, ?_⟩) hHeld ?_ ?_
    rotate_left
    · intro w' hL'
      have o0 := blk_cell hL'.one.blk 0
      have o1 := blk_cell hL'.one.blk 1
      have o2 := blk_cell hL'.one.blk 2
      have o3 := blk_cell hL'.one.blk 3
      have o4 := blk_cell hL'.one.blk 4
      go_simp
      with_reducible rfl
    rotate_left
    · simp only [Act.put, List.setIfInBounds_toArray, List.set_cons_zero, List.set_cons_succ, i64_w, i32_w]
      rfl
    refine pure_ (i := 2) (N := some 46) (v := ?_) (a' := ?_) #[true, true, true, false, false, false, false, false, false, false, false, false, false, false, false, false, false, false, false, false, false, false] rfl rfl (by kernel_rfl) (fun _ _ _ h => h) (Or.inl ⟨by rfl, ?_⟩) ?_ ?_
    rotate_left
    · intro w'
      go_simp
      with_reducible rfl
    rotate_left
    · simp only [Act.put, List.setIfInBounds_toArray, List.set_cons_zero, List.set_cons_succ, i64_w, i32_w]
      rfl
    refine pure_ (i := 3) (N := some 47) (v := ?_) (a' := ?_) #[true, true, true, true, false, false, false, false, false, false, false, false, false, false, false, false, false, false, false, false, false, false] rfl rfl (by kernel_rfl) (fun _ _ _ h => h) (Or.inl ⟨by rfl, ?_⟩) ?_ ?_
    rotate_left
    · intro w'
      go_simp
      with_reducible rfl
    rotate_left
    · simp only [Act.put, List.setIfInBounds_toArray, List.set_cons_zero, List.set_cons_succ, i64_w, i32_w]
      rfl
    refine pure_ (i := 4) (N := some 48) (v := ?_) (a' := ?_) #[true, true, true, true, true, false, false, false, false, false, false, false, false, false, false, false, false, false, false, false, false, false] rfl rfl (by kernel_rfl) (fun _ _ _ h => h) (Or.inl ⟨by rfl, ?_⟩) ?_ ?_
    rotate_left
    · intro w'
      go_simp
      with_reducible rfl
    rotate_left
    · simp only [Act.put, List.setIfInBounds_toArray, List.set_cons_zero, List.set_cons_succ, i64_w, i32_w]
      rfl
    refine pure_ (i := 5) (N := some 49) (v := ?_) (a' := ?_) #[true, true, true, true, true, true, false, false, false, false, false, false, false, false, false, false, false, false, false, false, false, false] rfl rfl (by kernel_rfl) (fun _ _ _ h => h) (Or.inl ⟨by rfl, ?_⟩) ?_ ?_
    rotate_left
    · intro w'
      go_simp
      with_reducible rfl
    rotate_left
    · simp only [Act.put, List.setIfInBounds_toArray, List.set_cons_zero, List.set_cons_succ, i64_w, i32_w]
      rfl
    refine pure_ (i := 6) (N := some 50) (v := ?_) (a' := ?_) #[true, true, true, true, true, true, true, false, false, false, false, false, false, false, false, false, false, false, false, false, false, false] rfl rfl (by kernel_rfl) (fun _ _ _ h => h) (Or.inl ⟨by rfl, ?_⟩) ?_ ?_
    rotate_left
    · intro w'
      go_simp
      rw [HUZ.out]
    rotate_left
    · simp only [Act.put, List.setIfInBounds_toArray, List.set_cons_zero, List.set_cons_succ, i64_w, i32_w]
      rfl
    refine pure_ (i := 7) (N := some 51) (v := ?_) (a' := ?_) #[true, true, true, true, true, true, true, true, false, false, false, false, false, false, false, false, false, false, false, false, false, false] rfl rfl (by kernel_rfl) (fun _ _ _ h => h) (Or.inl ⟨by rfl, ?_⟩) ?_ ?_
    rotate_left
    · intro w'
      go_simp
      with_reducible rfl
    rotate_left
    · simp only [Act.put, List.setIfInBounds_toArray, List.set_cons_zero, List.set_cons_succ, i64_w, i32_w]
      rfl
    refine pure_ (i := 8) (N := some 52) (v := ?_) (a' := ?_) #[true, true, true, true, true, true, true, true, true, false, false, false, false, false, false, false, false, false, false, false, false, false] rfl rfl (by kernel_rfl) (fun _ _ _ h => h) (Or.inl ⟨by rfl, ?_⟩) ?_ ?_
    rotate_left
    · intro w'
      go_simp
      with_reducible rfl
    rotate_left
    · simp only [Act.put, List.setIfInBounds_toArray, List.set_cons_zero, List.set_cons_succ, i64_w, i32_w]
      rfl
    refine pure_ (i := 9) (N := some 53) (v := ?_) (a' := ?_) #[true, true, true, true, true, true, true, true, true, true, false, false, false, false, false, false, false, false, false, false, false, false] rfl rfl (by kernel_rfl) (fun _ _ _ h => h) (Or.inl ⟨by rfl, ?_⟩) ?_ ?_
    rotate_left
    · intro w'
      go_simp
      with_reducible rfl
    rotate_left
    · simp only [Act.put, List.setIfInBounds_toArray, List.set_cons_zero, List.set_cons_succ, i64_w, i32_w]
      rfl
    refine take_ (i := 10) (N := some 54) (v := ?_) (a' := ?_) #[true, true, true, true, true, true, true, true, true, true, true, false, false, false, false, false, false, false, false, false, false, false] rfl rfl (by kernel_rfl) (fun _ _ _ h => h) (Or.inl ⟨by rfl, ?_⟩) hHeld ?_ ?_
    rotate_left
    · intro w' hL'
      have q0 := blk_cell hL'.two.blk 0
      have q1 := blk_cell hL'.two.blk 1
      have q2 := blk_cell hL'.two.blk 2
      have q3 := blk_cell hL'.two.blk 3
      have q4 := blk_cell hL'.two.blk 4
      go_simp
      with_reducible rfl
    rotate_left
    · simp only [Act.put, List.setIfInBounds_toArray, List.set_cons_zero, List.set_cons_succ, i64_w, i32_w]
      rfl
    refine pure_ (i := 11) (N := some 55) (v := ?_) (a' := ?_) #[true, true, true, true, true, true, true, true, true, true, true, true, false, false, false, false, false, false, false, false, false, false] rfl rfl (by kernel_rfl) (fun _ _ _ h => h) (Or.inl ⟨by rfl, ?_⟩) ?_ ?_
    rotate_left
    · intro w'
      go_simp
      with_reducible rfl
    rotate_left
    · simp only [Act.put, List.setIfInBounds_toArray, List.set_cons_zero, List.set_cons_succ, i64_w, i32_w]
      rfl
    refine pure_ (i := 12) (N := some 56) (v := ?_) (a' := ?_) #[true, true, true, true, true, true, true, true, true, true, true, true, true, false, false, false, false, false, false, false, false, false] rfl rfl (by kernel_rfl) (fun _ _ _ h => h) (Or.inl ⟨by rfl, ?_⟩) ?_ ?_
    rotate_left
    · intro w'
      have hz1 : (8 : Int) ≤ (U.size : Int) := by rw [HUZ.out]; decide
      go_simp
      rw [HUT.out]
    rotate_left
    · simp only [Act.put, List.setIfInBounds_toArray, List.set_cons_zero, List.set_cons_succ, i64_w, i32_w]
      rfl
    refine pure_ (i := 13) (N := some 57) (v := ?_) (a' := ?_) #[true, true, true, true, true, true, true, true, true, true, true, true, true, true, false, false, false, false, false, false, false, false] rfl rfl (by kernel_rfl) (fun _ _ _ h => h) (Or.inl ⟨by rfl, ?_⟩) ?_ ?_
    rotate_left
    · intro w'
      go_simp
      rfl
    rotate_left
    · simp only [Act.put, List.setIfInBounds_toArray, List.set_cons_zero, List.set_cons_succ, i64_w, i32_w]
      rfl
    refine pure_ (i := 14) (N := some 58) (v := ?_) (a' := ?_) #[true, true, true, true, true, true, true, true, true, true, true, true, true, true, true, false, false, false, false, false, false, false] rfl rfl (by kernel_rfl) (fun _ _ _ h => h) (Or.inl ⟨by rfl, ?_⟩) ?_ ?_
    rotate_left
    · intro w'
      go_simp
      with_reducible rfl
    rotate_left
    · simp only [Act.put, List.setIfInBounds_toArray, List.set_cons_zero, List.set_cons_succ, i64_w, i32_w]
      rfl
    refine pure_ (i := 15) (N := some 59) (v := ?_) (a' := ?_) #[true, true, true, true, true, true, true, true, true, true, true, true, true, true, true, true, false, false, false, false, false, false] rfl rfl (by kernel_rfl) (fun _ _ _ h => h) (Or.inl ⟨by rfl, ?_⟩) ?_ ?_
    rotate_left
    · intro w'
      go_simp
      with_reducible rfl
    rotate_left
    · simp only [Act.put, List.setIfInBounds_toArray, List.set_cons_zero, List.set_cons_succ, i64_w, i32_w]
      rfl
    refine pure_ (i := 16) (N := some 60) (v := ?_) (a' := ?_) #[true, true, true, true, true, true, true, true, true, true, true, true, true, true, true, true, true, false, false, false, false, false] rfl rfl (by kernel_rfl) (fun _ _ _ h => h) (Or.inl ⟨by rfl, ?_⟩) ?_ ?_
    rotate_left
    · intro w'
      go_simp
      with_reducible rfl
    rotate_left
    · simp only [Act.put, List.setIfInBounds_toArray, List.set_cons_zero, List.set_cons_succ, i64_w, i32_w]
      rfl
    refine take_ (i := 17) (N := some 61) (v := ?_) (a' := ?_) #[true, true, true, true, true, true, true, true, true, true, true, true, true, true, true, true, true, true, false, false, false, false] rfl rfl (by kernel_rfl) (fun _ _ _ h => h) (Or.inl ⟨by rfl, ?_⟩) hHeld ?_ ?_
    rotate_left
    · intro w' hL'
      have q0 := blk_cell hL'.two.blk 0
      have q1 := blk_cell hL'.two.blk 1
      have q2 := blk_cell hL'.two.blk 2
      have q3 := blk_cell hL'.two.blk 3
      have q4 := blk_cell hL'.two.blk 4
      go_simp
      with_reducible rfl
    rotate_left
    · simp only [Act.put, List.setIfInBounds_toArray, List.set_cons_zero, List.set_cons_succ, i64_w, i32_w]
      rfl
    refine take_ (i := 19) (N := some 63) (v := ?_) (a' := ?_) #[true, true, true, true, true, true, true, true, true, true, true, true, true, true, true, true, true, true, false, true, false, false] rfl rfl (by kernel_rfl) (fun _ _ _ h => h) (Or.inl ⟨by rfl, ?_⟩) hHeld ?_ ?_
    rotate_left
    · intro w' hL'
      have q0 := blk_cell hL'.two.blk 0
      have q1 := blk_cell hL'.two.blk 1
      have q2 := blk_cell hL'.two.blk 2
      have q3 := blk_cell hL'.two.blk 3
      have q4 := blk_cell hL'.two.blk 4
      go_simp
      with_reducible rfl
    rotate_left
    · simp only [Act.put, List.setIfInBounds_toArray, List.set_cons_zero, List.set_cons_succ, i64_w, i32_w]
      rfl
    refine one_ (i := 18) (N := some 62) #[true, true, true, true, true, true, true, true, true, true, true, true, true, true, true, true, true, true, true, true, false, false] rfl rfl (by kernel_rfl) (by decide) (fun K hK => ?_)
    refine goes_ Tryd.func39 (by kernel_rfl) rfl #[.string s, .agg #[.int .i64 a, .int .i64 b, .int .i64 c, .int .i64 d, .string TG]] (by rfl) rfl rfl (by simp only [List.map_toArray, List.map_cons, List.map_nil]; rfl) ?_
    refine (Seal_any s a b c d TG _ (by omega) HA.out HB.out HC.out HDD.out (HM.out.below hHeld.one.below) (HD.out.below hHeld.one.below)).mono ?_
    rw [HTG.out]
    rintro e w' ⟨rfl, hb'⟩
    refine ⟨_, rfl, ?_⟩
    refine hK.out _ _ (hHeld.more hb') (fun hHeld => ?_)
    clear hK K
    refine norm_ (a' := ?_) ?_ ?_
    rotate_left
    · show Act.put _ (some 62) _ = _
      simp only [Act.put, List.setIfInBounds_toArray, List.set_cons_zero, List.set_cons_succ, i64_w, i32_w]
      rfl
    refine pure_ (i := 20) (N := some 64) (v := ?_) (a' := ?_) #[true, true, true, true, true, true, true, true, true, true, true, true, true, true, true, true, true, true, true, true, true, false] rfl rfl (by kernel_rfl) (fun _ _ _ h => h) (Or.inl ⟨by rfl, ?_⟩) ?_ ?_
    rotate_left
    · intro w'
      go_simp
      with_reducible rfl
    rotate_left
    · simp only [Act.put, List.setIfInBounds_toArray, List.set_cons_zero, List.set_cons_succ, i64_w, i32_w]
      rfl
    refine pure_ (i := 21) (N := some 65) (v := ?_) (a' := ?_) #[true, true, true, true, true, true, true, true, true, true, true, true, true, true, true, true, true, true, true, true, true, true] rfl rfl (by kernel_rfl) (fun _ _ _ h => h) (Or.inl ⟨by rfl, ?_⟩) ?_ ?_
    rotate_left
    · intro w'
      go_simp
      with_reducible rfl
    rotate_left
    · simp only [Act.put, List.setIfInBounds_toArray, List.set_cons_zero, List.set_cons_succ, i64_w, i32_w]
      rfl
    refine done_ (by kernel_rfl) ?_
    by_cases hst : t = TG
    · subst hst
      cases hf : formedB a b c d t
      · have HF := Lib.hid hf; clear hf
        have hGX : genuineB s a b c d t = false := by unfold genuineB; rw [HF.out, HTG.out]; simp
        have hGG := hGX
        have hX := bytes_no HF.out
        have HBX := Lib.hid hX; have HGX := Lib.hid hGX; have HGG := Lib.hid hGG; clear hX hGX hGG
        go_wp2_with fail
        refine start_ (n := 25) (S := fun w' => Th w w' g a b c d t h t k) (ds := []) #[false, false, false, false, false, false, false, false, false, false, false, false, false, false, false, false, false, false, false, false, false, false, false, false, false] (by kernel_rfl) rfl rfl (hHeld.more (below_drew (Below.refl _ _))) (fun hHeld => ?_)
        refine pure_ (i := 0) (N := some 66) (v := ?_) (a' := ?_) #[true, false, false, false, false, false, false, false, false, false, false, false, false, false, false, false, false, false, false, false, false, false, false, false, false] rfl rfl (by kernel_rfl) (fun _ _ _ h => h) (Or.inl ⟨by rfl, ?_⟩) ?_ ?_
        rotate_left
        · intro w'
          go_simp
          with_reducible rfl
        rotate_left
        · simp only [Act.put, List.setIfInBounds_toArray, List.set_cons_zero, List.set_cons_succ, i64_w, i32_w]
          rfl
        refine pure_ (i := 1) (N := some 67) (v := ?_) (a' := ?_) #[true, true, false, false, false, false, false, false, false, false, false, false, false, false, false, false, false, false, false, false, false, false, false, false, false] rfl rfl (by kernel_rfl) (fun _ _ _ h => h) (Or.inl ⟨by rfl, ?_⟩) ?_ ?_
        rotate_left
        · intro w'
          go_simp
          with_reducible rfl
        rotate_left
        · simp only [Act.put, List.setIfInBounds_toArray, List.set_cons_zero, List.set_cons_succ, i64_w, i32_w]
          rfl
        refine pure_ (i := 2) (N := some 68) (v := ?_) (a' := ?_) #[true, true, true, false, false, false, false, false, false, false, false, false, false, false, false, false, false, false, false, false, false, false, false, false, false] rfl rfl (by kernel_rfl) (fun _ _ _ h => h) (Or.inl ⟨by rfl, ?_⟩) ?_ ?_
        rotate_left
        · intro w'
          go_simp
          with_reducible rfl
        rotate_left
        · simp only [Act.put, List.setIfInBounds_toArray, List.set_cons_zero, List.set_cons_succ, i64_w, i32_w]
          rfl
        refine take_ (i := 3) (N := some 69) (v := ?_) (a' := ?_) #[true, true, true, true, false, false, false, false, false, false, false, false, false, false, false, false, false, false, false, false, false, false, false, false, false] rfl rfl (by kernel_rfl) (fun _ _ _ h => h) (Or.inl ⟨by rfl, ?_⟩) hHeld ?_ ?_
        rotate_left
        · intro w' hL'
          have q0 := blk_cell hL'.two.blk 0
          have q1 := blk_cell hL'.two.blk 1
          have q2 := blk_cell hL'.two.blk 2
          have q3 := blk_cell hL'.two.blk 3
          have q4 := blk_cell hL'.two.blk 4
          go_simp
          with_reducible rfl
        rotate_left
        · simp only [Act.put, List.setIfInBounds_toArray, List.set_cons_zero, List.set_cons_succ, i64_w, i32_w]
          rfl
        refine take_ (i := 5) (N := some 71) (v := ?_) (a' := ?_) #[true, true, true, true, false, true, false, false, false, false, false, false, false, false, false, false, false, false, false, false, false, false, false, false, false] rfl rfl (by kernel_rfl) (fun _ _ _ h => h) (Or.inl ⟨by rfl, ?_⟩) hHeld ?_ ?_
        rotate_left
        · intro w' hL'
          have q0 := blk_cell hL'.two.blk 0
          have q1 := blk_cell hL'.two.blk 1
          have q2 := blk_cell hL'.two.blk 2
          have q3 := blk_cell hL'.two.blk 3
          have q4 := blk_cell hL'.two.blk 4
          go_simp
          with_reducible rfl
        rotate_left
        · simp only [Act.put, List.setIfInBounds_toArray, List.set_cons_zero, List.set_cons_succ, i64_w, i32_w]
          rfl
        refine one_ (i := 4) (N := some 70) #[true, true, true, true, true, true, false, false, false, false, false, false, false, false, false, false, false, false, false, false, false, false, false, false, false] rfl rfl (by kernel_rfl) (by decide) (fun K hK => ?_)
        refine goes_ Tryd.func42 (by kernel_rfl) rfl #[.string s, .agg #[.int .i64 a, .int .i64 b, .int .i64 c, .int .i64 d, .string t]] (by rfl) rfl rfl (by simp only [List.map_toArray, List.map_cons, List.map_nil]; rfl) ?_
        refine (Genuine_any s a b c d t _ (by omega) HA.out HB.out HC.out HDD.out (HM.out.below hHeld.one.below) (HD.out.below hHeld.one.below) (HLM.out.below hHeld.one.below h4 h4) (Nat.le_trans h4 hHeld.one.below.size)).mono ?_
        rw [HGX.out]
        rintro e w' ⟨rfl, hb'⟩
        refine ⟨_, rfl, ?_⟩
        refine hK.out _ _ (hHeld.more hb') (fun hHeld => ?_)
        clear hK K
        refine norm_ (a' := ?_) ?_ ?_
        rotate_left
        · show Act.put _ (some 70) _ = _
          simp only [Act.put, List.setIfInBounds_toArray, List.set_cons_zero, List.set_cons_succ, i64_w, i32_w]
          rfl
        refine one_ (i := 6) (N := some 72) #[true, true, true, true, true, true, true, false, false, false, false, false, false, false, false, false, false, false, false, false, false, false, false, false, false] rfl rfl (by kernel_rfl) (by decide) (fun K hK => ?_)
        refine goes_ Tryd.func43 (by kernel_rfl) rfl #[.agg #[.int .i64 a, .int .i64 b, .int .i64 c, .int .i64 d, .string t]] (by rfl) rfl rfl (by simp only [List.map_toArray, List.map_cons, List.map_nil]; rfl) ?_
        refine (Bytes_any a b c d t _ (by rw [HTZ.out]; decide) HA.out HB.out HC.out HDD.out (HM.out.below hHeld.one.below) (HLM.out.below hHeld.one.below h4 h4) (Nat.le_trans h4 hHeld.one.below.size)).mono ?_
        rw [HBX.out]
        rintro e w' ⟨rfl, hb'⟩
        refine ⟨_, rfl, ?_⟩
        refine hK.out _ _ (hHeld.more hb') (fun hHeld => ?_)
        clear hK K
        refine norm_ (a' := ?_) ?_ ?_
        rotate_left
        · show Act.put _ (some 72) _ = _
          simp only [Act.put, List.setIfInBounds_toArray, List.set_cons_zero, List.set_cons_succ, i64_w, i32_w]
          rfl
        refine pure_ (i := 7) (N := some 73) (v := ?_) (a' := ?_) #[true, true, true, true, true, true, true, true, false, false, false, false, false, false, false, false, false, false, false, false, false, false, false, false, false] rfl rfl (by kernel_rfl) (fun _ _ _ h => h) (Or.inl ⟨by rfl, ?_⟩) ?_ ?_
        rotate_left
        · intro w'
          go_simp
          rfl
        rotate_left
        · simp only [Act.put, List.setIfInBounds_toArray, List.set_cons_zero, List.set_cons_succ, i64_w, i32_w]
          rfl
        refine pure_ (i := 8) (N := some 74) (v := ?_) (a' := ?_) #[true, true, true, true, true, true, true, true, true, false, false, false, false, false, false, false, false, false, false, false, false, false, false, false, false] rfl rfl (by kernel_rfl) (fun _ _ _ h => h) (Or.inl ⟨by rfl, ?_⟩) ?_ ?_
        rotate_left
        · intro w'
          go_simp
          with_reducible rfl
        rotate_left
        · simp only [Act.put, List.setIfInBounds_toArray, List.set_cons_zero, List.set_cons_succ, i64_w, i32_w]
          rfl
        refine pure_ (i := 9) (N := some 75) (v := ?_) (a' := ?_) #[true, true, true, true, true, true, true, true, true, true, false, false, false, false, false, false, false, false, false, false, false, false, false, false, false] rfl rfl (by kernel_rfl) (fun _ _ _ h => h) (Or.inl ⟨by rfl, ?_⟩) ?_ ?_
        rotate_left
        · intro w'
          go_simp
          with_reducible rfl
        rotate_left
        · simp only [Act.put, List.setIfInBounds_toArray, List.set_cons_zero, List.set_cons_succ, i64_w, i32_w]
          rfl
        refine pure_ (i := 10) (N := some 76) (v := ?_) (a' := ?_) #[true, true, true, true, true, true, true, true, true, true, true, false, false, false, false, false, false, false, false, false, false, false, false, false, false] rfl rfl (by kernel_rfl) (fun _ _ _ h => h) (Or.inl ⟨by rfl, ?_⟩) ?_ ?_
        rotate_left
        · intro w'
          go_simp
          with_reducible rfl
        rotate_left
        · simp only [Act.put, List.setIfInBounds_toArray, List.set_cons_zero, List.set_cons_succ, i64_w, i32_w]
          rfl
        refine pure_ (i := 11) (N := some 77) (v := ?_) (a' := ?_) #[true, true, true, true, true, true, true, true, true, true, true, true, false, false, false, false, false, false, false, false, false, false, false, false, false] rfl rfl (by kernel_rfl) (fun _ _ _ h => h) (Or.inl ⟨by rfl, ?_⟩) ?_ ?_
        rotate_left
        · intro w'
          go_simp
          with_reducible rfl
        rotate_left
        · simp only [Act.put, List.setIfInBounds_toArray, List.set_cons_zero, List.set_cons_succ, i64_w, i32_w]
          rfl
        refine take_ (i := 12) (N := some 78) (v := ?_) (a' := ?_) #[true, true, true, true, true, true, true, true, true, true, true, true, true, false, false, false, false, false, false, false, false, false, false, false, false] rfl rfl (by kernel_rfl) (fun _ _ _ h => h) (Or.inl ⟨by rfl, ?_⟩) hHeld ?_ ?_
        rotate_left
        · intro w' hL'
          have o0 := blk_cell hL'.one.blk 0
          have o1 := blk_cell hL'.one.blk 1
          have o2 := blk_cell hL'.one.blk 2
          have o3 := blk_cell hL'.one.blk 3
          have o4 := blk_cell hL'.one.blk 4
          go_simp
          with_reducible rfl
        rotate_left
        · simp only [Act.put, List.setIfInBounds_toArray, List.set_cons_zero, List.set_cons_succ, i64_w, i32_w]
          rfl
        refine take_ (i := 14) (N := some 80) (v := ?_) (a' := ?_) #[true, true, true, true, true, true, true, true, true, true, true, true, true, false, true, false, false, false, false, false, false, false, false, false, false] rfl rfl (by kernel_rfl) (fun _ _ _ h => h) (Or.inl ⟨by rfl, ?_⟩) hHeld ?_ ?_
        rotate_left
        · intro w' hL'
          have o0 := blk_cell hL'.one.blk 0
          have o1 := blk_cell hL'.one.blk 1
          have o2 := blk_cell hL'.one.blk 2
          have o3 := blk_cell hL'.one.blk 3
          have o4 := blk_cell hL'.one.blk 4
          go_simp
          with_reducible rfl
        rotate_left
        · simp only [Act.put, List.setIfInBounds_toArray, List.set_cons_zero, List.set_cons_succ, i64_w, i32_w]
          rfl
        refine take_ (i := 15) (N := some 81) (v := ?_) (a' := ?_) #[true, true, true, true, true, true, true, true, true, true, true, true, true, false, true, true, false, false, false, false, false, false, false, false, false] rfl rfl (by kernel_rfl) (fun _ _ _ h => h) (Or.inl ⟨by rfl, ?_⟩) hHeld ?_ ?_
        rotate_left
        · intro w' hL'
          have q0 := blk_cell hL'.two.blk 0
          have q1 := blk_cell hL'.two.blk 1
          have q2 := blk_cell hL'.two.blk 2
          have q3 := blk_cell hL'.two.blk 3
          have q4 := blk_cell hL'.two.blk 4
          go_simp
          with_reducible rfl
        rotate_left
        · simp only [Act.put, List.setIfInBounds_toArray, List.set_cons_zero, List.set_cons_succ, i64_w, i32_w]
          rfl
        refine pure_ (i := 16) (N := some 82) (v := ?_) (a' := ?_) #[true, true, true, true, true, true, true, true, true, true, true, true, true, false, true, true, true, false, false, false, false, false, false, false, false] rfl rfl (by kernel_rfl) (fun _ _ _ h => h) (Or.inl ⟨by rfl, ?_⟩) ?_ ?_
        rotate_left
        · intro w'
          go_simp
          with_reducible rfl
        rotate_left
        · simp only [Act.put, List.setIfInBounds_toArray, List.set_cons_zero, List.set_cons_succ, i64_w, i32_w]
          rfl
        refine one_ (i := 13) (N := some 79) #[true, true, true, true, true, true, true, true, true, true, true, true, true, true, true, true, true, false, false, false, false, false, false, false, false] rfl rfl (by kernel_rfl) (by decide) (fun K hK => ?_)
        refine goes_ Tryd.func42 (by kernel_rfl) rfl #[.string s, .agg #[.int .i64 a, .int .i64 b, .int .i64 c, .int .i64 d, .string t]] (by rfl) rfl rfl (by simp only [List.map_toArray, List.map_cons, List.map_nil]; rfl) ?_
        refine (Genuine_any s a b c d t _ (by omega) HA.out HB.out HC.out HDD.out (HM.out.below hHeld.one.below) (HD.out.below hHeld.one.below) (HLM.out.below hHeld.one.below h4 h4) (Nat.le_trans h4 hHeld.one.below.size)).mono ?_
        rw [HGG.out]
        rintro e w' ⟨rfl, hb'⟩
        refine ⟨_, rfl, ?_⟩
        refine hK.out _ _ (hHeld.more hb') (fun hHeld => ?_)
        clear hK K
        refine norm_ (a' := ?_) ?_ ?_
        rotate_left
        · show Act.put _ (some 79) _ = _
          simp only [Act.put, List.setIfInBounds_toArray, List.set_cons_zero, List.set_cons_succ, i64_w, i32_w]
          rfl
        refine pure_ (i := 17) (N := some 83) (v := ?_) (a' := ?_) #[true, true, true, true, true, true, true, true, true, true, true, true, true, true, true, true, true, true, false, false, false, false, false, false, false] rfl rfl (by kernel_rfl) (fun _ _ _ h => h) (Or.inl ⟨by rfl, ?_⟩) ?_ ?_
        rotate_left
        · intro w'
          go_simp
          with_reducible rfl
        rotate_left
        · simp only [Act.put, List.setIfInBounds_toArray, List.set_cons_zero, List.set_cons_succ, i64_w, i32_w]
          rfl
        refine take_ (i := 18) (N := some 84) (v := ?_) (a' := ?_) #[true, true, true, true, true, true, true, true, true, true, true, true, true, true, true, true, true, true, true, false, false, false, false, false, false] rfl rfl (by kernel_rfl) (fun _ _ _ h => h) (Or.inl ⟨by rfl, ?_⟩) hHeld ?_ ?_
        rotate_left
        · intro w' hL'
          have o0 := blk_cell hL'.one.blk 0
          have o1 := blk_cell hL'.one.blk 1
          have o2 := blk_cell hL'.one.blk 2
          have o3 := blk_cell hL'.one.blk 3
          have o4 := blk_cell hL'.one.blk 4
          go_simp
          with_reducible rfl
        rotate_left
        · simp only [Act.put, List.setIfInBounds_toArray, List.set_cons_zero, List.set_cons_succ, i64_w, i32_w]
          rfl
        refine one_ (i := 19) (N := some 85) #[true, true, true, true, true, true, true, true, true, true, true, true, true, true, true, true, true, true, true, true, false, false, false, false, false] rfl rfl (by kernel_rfl) (by decide) (fun K hK => ?_)
        refine goes_ Tryd.func43 (by kernel_rfl) rfl #[.agg #[.int .i64 a, .int .i64 b, .int .i64 c, .int .i64 d, .string t]] (by rfl) rfl rfl (by simp only [List.map_toArray, List.map_cons, List.map_nil]; rfl) ?_
        refine (Bytes_any a b c d t _ (by rw [HTZ.out]; decide) HA.out HB.out HC.out HDD.out (HM.out.below hHeld.one.below) (HLM.out.below hHeld.one.below h4 h4) (Nat.le_trans h4 hHeld.one.below.size)).mono ?_
        rw [HBX.out]
        rintro e w' ⟨rfl, hb'⟩
        refine ⟨_, rfl, ?_⟩
        refine hK.out _ _ (hHeld.more hb') (fun hHeld => ?_)
        clear hK K
        refine norm_ (a' := ?_) ?_ ?_
        rotate_left
        · show Act.put _ (some 85) _ = _
          simp only [Act.put, List.setIfInBounds_toArray, List.set_cons_zero, List.set_cons_succ, i64_w, i32_w]
          rfl
        refine pure_ (i := 20) (N := some 86) (v := ?_) (a' := ?_) #[true, true, true, true, true, true, true, true, true, true, true, true, true, true, true, true, true, true, true, true, true, false, false, false, false] rfl rfl (by kernel_rfl) (fun _ _ _ h => h) (Or.inl ⟨by rfl, ?_⟩) ?_ ?_
        rotate_left
        · intro w'
          go_simp
          rfl
        rotate_left
        · simp only [Act.put, List.setIfInBounds_toArray, List.set_cons_zero, List.set_cons_succ, i64_w, i32_w]
          rfl
        refine pure_ (i := 21) (N := some 87) (v := ?_) (a' := ?_) #[true, true, true, true, true, true, true, true, true, true, true, true, true, true, true, true, true, true, true, true, true, true, false, false, false] rfl rfl (by kernel_rfl) (fun _ _ _ h => h) (Or.inl ⟨by rfl, ?_⟩) ?_ ?_
        rotate_left
        · intro w'
          go_simp
          with_reducible rfl
        rotate_left
        · simp only [Act.put, List.setIfInBounds_toArray, List.set_cons_zero, List.set_cons_succ, i64_w, i32_w]
          rfl
        refine pure_ (i := 22) (N := some 88) (v := ?_) (a' := ?_) #[true, true, true, true, true, true, true, true, true, true, true, true, true, true, true, true, true, true, true, true, true, true, true, false, false] rfl rfl (by kernel_rfl) (fun _ _ _ h => h) (Or.inl ⟨by rfl, ?_⟩) ?_ ?_
        rotate_left
        · intro w'
          go_simp
          with_reducible rfl
        rotate_left
        · simp only [Act.put, List.setIfInBounds_toArray, List.set_cons_zero, List.set_cons_succ, i64_w, i32_w]
          rfl
        refine pure_ (i := 23) (N := some 89) (v := ?_) (a' := ?_) #[true, true, true, true, true, true, true, true, true, true, true, true, true, true, true, true, true, true, true, true, true, true, true, true, false] rfl rfl (by kernel_rfl) (fun _ _ _ h => h) (Or.inl ⟨by rfl, ?_⟩) ?_ ?_
        rotate_left
        · intro w'
          go_simp
          with_reducible rfl
        rotate_left
        · simp only [Act.put, List.setIfInBounds_toArray, List.set_cons_zero, List.set_cons_succ, i64_w, i32_w]
          rfl
        refine pure_ (i := 24) (N := some 4) (v := ?_) (a' := ?_) #[true, true, true, true, true, true, true, true, true, true, true, true, true, true, true, true, true, true, true, true, true, true, true, true, true] rfl rfl (by kernel_rfl) (fun _ _ _ h => h) (Or.inl ⟨by rfl, ?_⟩) ?_ ?_
        rotate_left
        · intro w'
          go_simp
          with_reducible rfl
        rotate_left
        · simp only [Act.put, List.setIfInBounds_toArray, List.set_cons_zero, List.set_cons_succ, i64_w, i32_w]
          rfl
        refine done_ (by kernel_rfl) ?_
        go_wp2
        go_ret
        exact ⟨rfl, hHeld.one.below⟩
      · have HF := Lib.hid hf; clear hf
        have hGX : genuineB s a b c d t = true := by unfold genuineB; rw [HF.out, HTG.out]; simp
        have hGG := hGX
        obtain ⟨X, hX⟩ : ∃ X, mkB (bytesL a b c d t) = X := ⟨_, rfl⟩
        have hXn : X.toList.isEmpty = false := by
          have hl := (bytes_len a b c d t HF.out).1
          rw [← hX, ByteArray.toList_eq, mkB_list, List.isEmpty_eq_false_iff]; intro h; rw [h] at hl; exact absurd hl (by decide)
        have HXN := Lib.hid hXn; clear hXn
        have HBX := Lib.hid hX; have HGX := Lib.hid hGX; have HGG := Lib.hid hGG; clear hX hGX hGG
        go_wp2_with fail
        refine start_ (n := 25) (S := fun w' => Th w w' g a b c d t h t k) (ds := []) #[false, false, false, false, false, false, false, false, false, false, false, false, false, false, false, false, false, false, false, false, false, false, false, false, false] (by kernel_rfl) rfl rfl (hHeld.more (below_drew (Below.refl _ _))) (fun hHeld => ?_)
        refine pure_ (i := 0) (N := some 66) (v := ?_) (a' := ?_) #[true, false, false, false, false, false, false, false, false, false, false, false, false, false, false, false, false, false, false, false, false, false, false, false, false] rfl rfl (by kernel_rfl) (fun _ _ _ h => h) (Or.inl ⟨by rfl, ?_⟩) ?_ ?_
        rotate_left
        · intro w'
          go_simp
          with_reducible rfl
        rotate_left
        · simp only [Act.put, List.setIfInBounds_toArray, List.set_cons_zero, List.set_cons_succ, i64_w, i32_w]
          rfl
        refine pure_ (i := 1) (N := some 67) (v := ?_) (a' := ?_) #[true, true, false, false, false, false, false, false, false, false, false, false, false, false, false, false, false, false, false, false, false, false, false, false, false] rfl rfl (by kernel_rfl) (fun _ _ _ h => h) (Or.inl ⟨by rfl, ?_⟩) ?_ ?_
        rotate_left
        · intro w'
          go_simp
          with_reducible rfl
        rotate_left
        · simp only [Act.put, List.setIfInBounds_toArray, List.set_cons_zero, List.set_cons_succ, i64_w, i32_w]
          rfl
        refine pure_ (i := 2) (N := some 68) (v := ?_) (a' := ?_) #[true, true, true, false, false, false, false, false, false, false, false, false, false, false, false, false, false, false, false, false, false, false, false, false, false] rfl rfl (by kernel_rfl) (fun _ _ _ h => h) (Or.inl ⟨by rfl, ?_⟩) ?_ ?_
        rotate_left
        · intro w'
          go_simp
          with_reducible rfl
        rotate_left
        · simp only [Act.put, List.setIfInBounds_toArray, List.set_cons_zero, List.set_cons_succ, i64_w, i32_w]
          rfl
        refine take_ (i := 3) (N := some 69) (v := ?_) (a' := ?_) #[true, true, true, true, false, false, false, false, false, false, false, false, false, false, false, false, false, false, false, false, false, false, false, false, false] rfl rfl (by kernel_rfl) (fun _ _ _ h => h) (Or.inl ⟨by rfl, ?_⟩) hHeld ?_ ?_
        rotate_left
        · intro w' hL'
          have q0 := blk_cell hL'.two.blk 0
          have q1 := blk_cell hL'.two.blk 1
          have q2 := blk_cell hL'.two.blk 2
          have q3 := blk_cell hL'.two.blk 3
          have q4 := blk_cell hL'.two.blk 4
          go_simp
          with_reducible rfl
        rotate_left
        · simp only [Act.put, List.setIfInBounds_toArray, List.set_cons_zero, List.set_cons_succ, i64_w, i32_w]
          rfl
        refine take_ (i := 5) (N := some 71) (v := ?_) (a' := ?_) #[true, true, true, true, false, true, false, false, false, false, false, false, false, false, false, false, false, false, false, false, false, false, false, false, false] rfl rfl (by kernel_rfl) (fun _ _ _ h => h) (Or.inl ⟨by rfl, ?_⟩) hHeld ?_ ?_
        rotate_left
        · intro w' hL'
          have q0 := blk_cell hL'.two.blk 0
          have q1 := blk_cell hL'.two.blk 1
          have q2 := blk_cell hL'.two.blk 2
          have q3 := blk_cell hL'.two.blk 3
          have q4 := blk_cell hL'.two.blk 4
          go_simp
          with_reducible rfl
        rotate_left
        · simp only [Act.put, List.setIfInBounds_toArray, List.set_cons_zero, List.set_cons_succ, i64_w, i32_w]
          rfl
        refine one_ (i := 4) (N := some 70) #[true, true, true, true, true, true, false, false, false, false, false, false, false, false, false, false, false, false, false, false, false, false, false, false, false] rfl rfl (by kernel_rfl) (by decide) (fun K hK => ?_)
        refine goes_ Tryd.func42 (by kernel_rfl) rfl #[.string s, .agg #[.int .i64 a, .int .i64 b, .int .i64 c, .int .i64 d, .string t]] (by rfl) rfl rfl (by simp only [List.map_toArray, List.map_cons, List.map_nil]; rfl) ?_
        refine (Genuine_any s a b c d t _ (by omega) HA.out HB.out HC.out HDD.out (HM.out.below hHeld.one.below) (HD.out.below hHeld.one.below) (HLM.out.below hHeld.one.below h4 h4) (Nat.le_trans h4 hHeld.one.below.size)).mono ?_
        rw [HGX.out]
        rintro e w' ⟨rfl, hb'⟩
        refine ⟨_, rfl, ?_⟩
        refine hK.out _ _ (hHeld.more hb') (fun hHeld => ?_)
        clear hK K
        refine norm_ (a' := ?_) ?_ ?_
        rotate_left
        · show Act.put _ (some 70) _ = _
          simp only [Act.put, List.setIfInBounds_toArray, List.set_cons_zero, List.set_cons_succ, i64_w, i32_w]
          rfl
        refine one_ (i := 6) (N := some 72) #[true, true, true, true, true, true, true, false, false, false, false, false, false, false, false, false, false, false, false, false, false, false, false, false, false] rfl rfl (by kernel_rfl) (by decide) (fun K hK => ?_)
        refine goes_ Tryd.func43 (by kernel_rfl) rfl #[.agg #[.int .i64 a, .int .i64 b, .int .i64 c, .int .i64 d, .string t]] (by rfl) rfl rfl (by simp only [List.map_toArray, List.map_cons, List.map_nil]; rfl) ?_
        refine (Bytes_any a b c d t _ (by rw [HTZ.out]; decide) HA.out HB.out HC.out HDD.out (HM.out.below hHeld.one.below) (HLM.out.below hHeld.one.below h4 h4) (Nat.le_trans h4 hHeld.one.below.size)).mono ?_
        rw [HBX.out]
        rintro e w' ⟨rfl, hb'⟩
        refine ⟨_, rfl, ?_⟩
        refine hK.out _ _ (hHeld.more hb') (fun hHeld => ?_)
        clear hK K
        refine norm_ (a' := ?_) ?_ ?_
        rotate_left
        · show Act.put _ (some 72) _ = _
          simp only [Act.put, List.setIfInBounds_toArray, List.set_cons_zero, List.set_cons_succ, i64_w, i32_w]
          rfl
        refine pure_ (i := 7) (N := some 73) (v := ?_) (a' := ?_) #[true, true, true, true, true, true, true, true, false, false, false, false, false, false, false, false, false, false, false, false, false, false, false, false, false] rfl rfl (by kernel_rfl) (fun _ _ _ h => h) (Or.inl ⟨by rfl, ?_⟩) ?_ ?_
        rotate_left
        · intro w'
          go_simp
          rw [HXN.out]
        rotate_left
        · simp only [Act.put, List.setIfInBounds_toArray, List.set_cons_zero, List.set_cons_succ, i64_w, i32_w]
          rfl
        refine pure_ (i := 8) (N := some 74) (v := ?_) (a' := ?_) #[true, true, true, true, true, true, true, true, true, false, false, false, false, false, false, false, false, false, false, false, false, false, false, false, false] rfl rfl (by kernel_rfl) (fun _ _ _ h => h) (Or.inl ⟨by rfl, ?_⟩) ?_ ?_
        rotate_left
        · intro w'
          go_simp
          with_reducible rfl
        rotate_left
        · simp only [Act.put, List.setIfInBounds_toArray, List.set_cons_zero, List.set_cons_succ, i64_w, i32_w]
          rfl
        refine pure_ (i := 9) (N := some 75) (v := ?_) (a' := ?_) #[true, true, true, true, true, true, true, true, true, true, false, false, false, false, false, false, false, false, false, false, false, false, false, false, false] rfl rfl (by kernel_rfl) (fun _ _ _ h => h) (Or.inl ⟨by rfl, ?_⟩) ?_ ?_
        rotate_left
        · intro w'
          go_simp
          with_reducible rfl
        rotate_left
        · simp only [Act.put, List.setIfInBounds_toArray, List.set_cons_zero, List.set_cons_succ, i64_w, i32_w]
          rfl
        refine pure_ (i := 10) (N := some 76) (v := ?_) (a' := ?_) #[true, true, true, true, true, true, true, true, true, true, true, false, false, false, false, false, false, false, false, false, false, false, false, false, false] rfl rfl (by kernel_rfl) (fun _ _ _ h => h) (Or.inl ⟨by rfl, ?_⟩) ?_ ?_
        rotate_left
        · intro w'
          go_simp
          with_reducible rfl
        rotate_left
        · simp only [Act.put, List.setIfInBounds_toArray, List.set_cons_zero, List.set_cons_succ, i64_w, i32_w]
          rfl
        refine pure_ (i := 11) (N := some 77) (v := ?_) (a' := ?_) #[true, true, true, true, true, true, true, true, true, true, true, true, false, false, false, false, false, false, false, false, false, false, false, false, false] rfl rfl (by kernel_rfl) (fun _ _ _ h => h) (Or.inl ⟨by rfl, ?_⟩) ?_ ?_
        rotate_left
        · intro w'
          go_simp
          with_reducible rfl
        rotate_left
        · simp only [Act.put, List.setIfInBounds_toArray, List.set_cons_zero, List.set_cons_succ, i64_w, i32_w]
          rfl
        refine take_ (i := 12) (N := some 78) (v := ?_) (a' := ?_) #[true, true, true, true, true, true, true, true, true, true, true, true, true, false, false, false, false, false, false, false, false, false, false, false, false] rfl rfl (by kernel_rfl) (fun _ _ _ h => h) (Or.inl ⟨by rfl, ?_⟩) hHeld ?_ ?_
        rotate_left
        · intro w' hL'
          have o0 := blk_cell hL'.one.blk 0
          have o1 := blk_cell hL'.one.blk 1
          have o2 := blk_cell hL'.one.blk 2
          have o3 := blk_cell hL'.one.blk 3
          have o4 := blk_cell hL'.one.blk 4
          go_simp
          with_reducible rfl
        rotate_left
        · simp only [Act.put, List.setIfInBounds_toArray, List.set_cons_zero, List.set_cons_succ, i64_w, i32_w]
          rfl
        refine take_ (i := 14) (N := some 80) (v := ?_) (a' := ?_) #[true, true, true, true, true, true, true, true, true, true, true, true, true, false, true, false, false, false, false, false, false, false, false, false, false] rfl rfl (by kernel_rfl) (fun _ _ _ h => h) (Or.inl ⟨by rfl, ?_⟩) hHeld ?_ ?_
        rotate_left
        · intro w' hL'
          have o0 := blk_cell hL'.one.blk 0
          have o1 := blk_cell hL'.one.blk 1
          have o2 := blk_cell hL'.one.blk 2
          have o3 := blk_cell hL'.one.blk 3
          have o4 := blk_cell hL'.one.blk 4
          go_simp
          with_reducible rfl
        rotate_left
        · simp only [Act.put, List.setIfInBounds_toArray, List.set_cons_zero, List.set_cons_succ, i64_w, i32_w]
          rfl
        refine take_ (i := 15) (N := some 81) (v := ?_) (a' := ?_) #[true, true, true, true, true, true, true, true, true, true, true, true, true, false, true, true, false, false, false, false, false, false, false, false, false] rfl rfl (by kernel_rfl) (fun _ _ _ h => h) (Or.inl ⟨by rfl, ?_⟩) hHeld ?_ ?_
        rotate_left
        · intro w' hL'
          have q0 := blk_cell hL'.two.blk 0
          have q1 := blk_cell hL'.two.blk 1
          have q2 := blk_cell hL'.two.blk 2
          have q3 := blk_cell hL'.two.blk 3
          have q4 := blk_cell hL'.two.blk 4
          go_simp
          with_reducible rfl
        rotate_left
        · simp only [Act.put, List.setIfInBounds_toArray, List.set_cons_zero, List.set_cons_succ, i64_w, i32_w]
          rfl
        refine pure_ (i := 16) (N := some 82) (v := ?_) (a' := ?_) #[true, true, true, true, true, true, true, true, true, true, true, true, true, false, true, true, true, false, false, false, false, false, false, false, false] rfl rfl (by kernel_rfl) (fun _ _ _ h => h) (Or.inl ⟨by rfl, ?_⟩) ?_ ?_
        rotate_left
        · intro w'
          go_simp
          with_reducible rfl
        rotate_left
        · simp only [Act.put, List.setIfInBounds_toArray, List.set_cons_zero, List.set_cons_succ, i64_w, i32_w]
          rfl
        refine one_ (i := 13) (N := some 79) #[true, true, true, true, true, true, true, true, true, true, true, true, true, true, true, true, true, false, false, false, false, false, false, false, false] rfl rfl (by kernel_rfl) (by decide) (fun K hK => ?_)
        refine goes_ Tryd.func42 (by kernel_rfl) rfl #[.string s, .agg #[.int .i64 a, .int .i64 b, .int .i64 c, .int .i64 d, .string t]] (by rfl) rfl rfl (by simp only [List.map_toArray, List.map_cons, List.map_nil]; rfl) ?_
        refine (Genuine_any s a b c d t _ (by omega) HA.out HB.out HC.out HDD.out (HM.out.below hHeld.one.below) (HD.out.below hHeld.one.below) (HLM.out.below hHeld.one.below h4 h4) (Nat.le_trans h4 hHeld.one.below.size)).mono ?_
        rw [HGG.out]
        rintro e w' ⟨rfl, hb'⟩
        refine ⟨_, rfl, ?_⟩
        refine hK.out _ _ (hHeld.more hb') (fun hHeld => ?_)
        clear hK K
        refine norm_ (a' := ?_) ?_ ?_
        rotate_left
        · show Act.put _ (some 79) _ = _
          simp only [Act.put, List.setIfInBounds_toArray, List.set_cons_zero, List.set_cons_succ, i64_w, i32_w]
          rfl
        refine pure_ (i := 17) (N := some 83) (v := ?_) (a' := ?_) #[true, true, true, true, true, true, true, true, true, true, true, true, true, true, true, true, true, true, false, false, false, false, false, false, false] rfl rfl (by kernel_rfl) (fun _ _ _ h => h) (Or.inl ⟨by rfl, ?_⟩) ?_ ?_
        rotate_left
        · intro w'
          go_simp
          with_reducible rfl
        rotate_left
        · simp only [Act.put, List.setIfInBounds_toArray, List.set_cons_zero, List.set_cons_succ, i64_w, i32_w]
          rfl
        refine take_ (i := 18) (N := some 84) (v := ?_) (a' := ?_) #[true, true, true, true, true, true, true, true, true, true, true, true, true, true, true, true, true, true, true, false, false, false, false, false, false] rfl rfl (by kernel_rfl) (fun _ _ _ h => h) (Or.inl ⟨by rfl, ?_⟩) hHeld ?_ ?_
        rotate_left
        · intro w' hL'
          have o0 := blk_cell hL'.one.blk 0
          have o1 := blk_cell hL'.one.blk 1
          have o2 := blk_cell hL'.one.blk 2
          have o3 := blk_cell hL'.one.blk 3
          have o4 := blk_cell hL'.one.blk 4
          go_simp
          with_reducible rfl
        rotate_left
        · simp only [Act.put, List.setIfInBounds_toArray, List.set_cons_zero, List.set_cons_succ, i64_w, i32_w]
          rfl
        refine one_ (i := 19) (N := some 85) #[true, true, true, true, true, true, true, true, true, true, true, true, true, true, true, true, true, true, true, true, false, false, false, false, false] rfl rfl (by kernel_rfl) (by decide) (fun K hK => ?_)
        refine goes_ Tryd.func43 (by kernel_rfl) rfl #[.agg #[.int .i64 a, .int .i64 b, .int .i64 c, .int .i64 d, .string t]] (by rfl) rfl rfl (by simp only [List.map_toArray, List.map_cons, List.map_nil]; rfl) ?_
        refine (Bytes_any a b c d t _ (by rw [HTZ.out]; decide) HA.out HB.out HC.out HDD.out (HM.out.below hHeld.one.below) (HLM.out.below hHeld.one.below h4 h4) (Nat.le_trans h4 hHeld.one.below.size)).mono ?_
        rw [HBX.out]
        rintro e w' ⟨rfl, hb'⟩
        refine ⟨_, rfl, ?_⟩
        refine hK.out _ _ (hHeld.more hb') (fun hHeld => ?_)
        clear hK K
        refine norm_ (a' := ?_) ?_ ?_
        rotate_left
        · show Act.put _ (some 85) _ = _
          simp only [Act.put, List.setIfInBounds_toArray, List.set_cons_zero, List.set_cons_succ, i64_w, i32_w]
          rfl
        refine pure_ (i := 20) (N := some 86) (v := ?_) (a' := ?_) #[true, true, true, true, true, true, true, true, true, true, true, true, true, true, true, true, true, true, true, true, true, false, false, false, false] rfl rfl (by kernel_rfl) (fun _ _ _ h => h) (Or.inl ⟨by rfl, ?_⟩) ?_ ?_
        rotate_left
        · intro w'
          go_simp
          rw [HXN.out]
        rotate_left
        · simp only [Act.put, List.setIfInBounds_toArray, List.set_cons_zero, List.set_cons_succ, i64_w, i32_w]
          rfl
        refine pure_ (i := 21) (N := some 87) (v := ?_) (a' := ?_) #[true, true, true, true, true, true, true, true, true, true, true, true, true, true, true, true, true, true, true, true, true, true, false, false, false] rfl rfl (by kernel_rfl) (fun _ _ _ h => h) (Or.inl ⟨by rfl, ?_⟩) ?_ ?_
        rotate_left
        · intro w'
          go_simp
          with_reducible rfl
        rotate_left
        · simp only [Act.put, List.setIfInBounds_toArray, List.set_cons_zero, List.set_cons_succ, i64_w, i32_w]
          rfl
        refine pure_ (i := 22) (N := some 88) (v := ?_) (a' := ?_) #[true, true, true, true, true, true, true, true, true, true, true, true, true, true, true, true, true, true, true, true, true, true, true, false, false] rfl rfl (by kernel_rfl) (fun _ _ _ h => h) (Or.inl ⟨by rfl, ?_⟩) ?_ ?_
        rotate_left
        · intro w'
          go_simp
          with_reducible rfl
        rotate_left
        · simp only [Act.put, List.setIfInBounds_toArray, List.set_cons_zero, List.set_cons_succ, i64_w, i32_w]
          rfl
        refine pure_ (i := 23) (N := some 89) (v := ?_) (a' := ?_) #[true, true, true, true, true, true, true, true, true, true, true, true, true, true, true, true, true, true, true, true, true, true, true, true, false] rfl rfl (by kernel_rfl) (fun _ _ _ h => h) (Or.inl ⟨by rfl, ?_⟩) ?_ ?_
        rotate_left
        · intro w'
          go_simp
          with_reducible rfl
        rotate_left
        · simp only [Act.put, List.setIfInBounds_toArray, List.set_cons_zero, List.set_cons_succ, i64_w, i32_w]
          rfl
        refine pure_ (i := 24) (N := some 4) (v := ?_) (a' := ?_) #[true, true, true, true, true, true, true, true, true, true, true, true, true, true, true, true, true, true, true, true, true, true, true, true, true] rfl rfl (by kernel_rfl) (fun _ _ _ h => h) (Or.inl ⟨by rfl, ?_⟩) ?_ ?_
        rotate_left
        · intro w'
          go_simp
          with_reducible rfl
        rotate_left
        · simp only [Act.put, List.setIfInBounds_toArray, List.set_cons_zero, List.set_cons_succ, i64_w, i32_w]
          rfl
        refine done_ (by kernel_rfl) ?_
        go_wp2
        go_ret
        exact ⟨rfl, hHeld.one.below⟩
    · cases hf : formedB a b c d TG
      · have HF := Lib.hid hf; clear hf
        have hGX : genuineB s a b c d TG = false := by unfold genuineB; rw [HF.out, HTG.out]; simp
        have hGG : genuineB s a b c d t = false := by unfold genuineB; rw [HTG.out, decide_eq_false (fun e => hst e.symm)]; simp
        have hne3 : (t.toList = TG.toList) = False := by simp only [eq_iff_iff, iff_false]; exact fun e => hst (ext_l e)
        have HNE3 := Lib.hid hne3; clear hne3
        have hX := bytes_no HF.out
        have HBX := Lib.hid hX; have HGX := Lib.hid hGX; have HGG := Lib.hid hGG; clear hX hGX hGG
        clear hst
        go_wp2_with fail
        refine start_ (n := 25) (S := fun w' => Th w w' g a b c d t h TG k) (ds := []) #[false, false, false, false, false, false, false, false, false, false, false, false, false, false, false, false, false, false, false, false, false, false, false, false, false] (by kernel_rfl) rfl rfl (hHeld.more (below_drew (Below.refl _ _))) (fun hHeld => ?_)
        refine pure_ (i := 0) (N := some 66) (v := ?_) (a' := ?_) #[true, false, false, false, false, false, false, false, false, false, false, false, false, false, false, false, false, false, false, false, false, false, false, false, false] rfl rfl (by kernel_rfl) (fun _ _ _ h => h) (Or.inl ⟨by rfl, ?_⟩) ?_ ?_
        rotate_left
        · intro w'
          go_simp
          with_reducible rfl
        rotate_left
        · simp only [Act.put, List.setIfInBounds_toArray, List.set_cons_zero, List.set_cons_succ, i64_w, i32_w]
          rfl
        refine pure_ (i := 1) (N := some 67) (v := ?_) (a' := ?_) #[true, true, false, false, false, false, false, false, false, false, false, false, false, false, false, false, false, false, false, false, false, false, false, false, false] rfl rfl (by kernel_rfl) (fun _ _ _ h => h) (Or.inl ⟨by rfl, ?_⟩) ?_ ?_
        rotate_left
        · intro w'
          go_simp
          with_reducible rfl
        rotate_left
        · simp only [Act.put, List.setIfInBounds_toArray, List.set_cons_zero, List.set_cons_succ, i64_w, i32_w]
          rfl
        refine pure_ (i := 2) (N := some 68) (v := ?_) (a' := ?_) #[true, true, true, false, false, false, false, false, false, false, false, false, false, false, false, false, false, false, false, false, false, false, false, false, false] rfl rfl (by kernel_rfl) (fun _ _ _ h => h) (Or.inl ⟨by rfl, ?_⟩) ?_ ?_
        rotate_left
        · intro w'
          go_simp
          with_reducible rfl
        rotate_left
        · simp only [Act.put, List.setIfInBounds_toArray, List.set_cons_zero, List.set_cons_succ, i64_w, i32_w]
          rfl
        refine take_ (i := 3) (N := some 69) (v := ?_) (a' := ?_) #[true, true, true, true, false, false, false, false, false, false, false, false, false, false, false, false, false, false, false, false, false, false, false, false, false] rfl rfl (by kernel_rfl) (fun _ _ _ h => h) (Or.inl ⟨by rfl, ?_⟩) hHeld ?_ ?_
        rotate_left
        · intro w' hL'
          have q0 := blk_cell hL'.two.blk 0
          have q1 := blk_cell hL'.two.blk 1
          have q2 := blk_cell hL'.two.blk 2
          have q3 := blk_cell hL'.two.blk 3
          have q4 := blk_cell hL'.two.blk 4
          go_simp
          with_reducible rfl
        rotate_left
        · simp only [Act.put, List.setIfInBounds_toArray, List.set_cons_zero, List.set_cons_succ, i64_w, i32_w]
          rfl
        refine take_ (i := 5) (N := some 71) (v := ?_) (a' := ?_) #[true, true, true, true, false, true, false, false, false, false, false, false, false, false, false, false, false, false, false, false, false, false, false, false, false] rfl rfl (by kernel_rfl) (fun _ _ _ h => h) (Or.inl ⟨by rfl, ?_⟩) hHeld ?_ ?_
        rotate_left
        · intro w' hL'
          have q0 := blk_cell hL'.two.blk 0
          have q1 := blk_cell hL'.two.blk 1
          have q2 := blk_cell hL'.two.blk 2
          have q3 := blk_cell hL'.two.blk 3
          have q4 := blk_cell hL'.two.blk 4
          go_simp
          with_reducible rfl
        rotate_left
        · simp only [Act.put, List.setIfInBounds_toArray, List.set_cons_zero, List.set_cons_succ, i64_w, i32_w]
          rfl
        refine one_ (i := 4) (N := some 70) #[true, true, true, true, true, true, false, false, false, false, false, false, false, false, false, false, false, false, false, false, false, false, false, false, false] rfl rfl (by kernel_rfl) (by decide) (fun K hK => ?_)
        refine goes_ Tryd.func42 (by kernel_rfl) rfl #[.string s, .agg #[.int .i64 a, .int .i64 b, .int .i64 c, .int .i64 d, .string TG]] (by rfl) rfl rfl (by simp only [List.map_toArray, List.map_cons, List.map_nil]; rfl) ?_
        refine (Genuine_any s a b c d TG _ (by omega) HA.out HB.out HC.out HDD.out (HM.out.below hHeld.one.below) (HD.out.below hHeld.one.below) (HLM.out.below hHeld.one.below h4 h4) (Nat.le_trans h4 hHeld.one.below.size)).mono ?_
        rw [HGX.out]
        rintro e w' ⟨rfl, hb'⟩
        refine ⟨_, rfl, ?_⟩
        refine hK.out _ _ (hHeld.more hb') (fun hHeld => ?_)
        clear hK K
        refine norm_ (a' := ?_) ?_ ?_
        rotate_left
        · show Act.put _ (some 70) _ = _
          simp only [Act.put, List.setIfInBounds_toArray, List.set_cons_zero, List.set_cons_succ, i64_w, i32_w]
          rfl
        refine one_ (i := 6) (N := some 72) #[true, true, true, true, true, true, true, false, false, false, false, false, false, false, false, false, false, false, false, false, false, false, false, false, false] rfl rfl (by kernel_rfl) (by decide) (fun K hK => ?_)
        refine goes_ Tryd.func43 (by kernel_rfl) rfl #[.agg #[.int .i64 a, .int .i64 b, .int .i64 c, .int .i64 d, .string TG]] (by rfl) rfl rfl (by simp only [List.map_toArray, List.map_cons, List.map_nil]; rfl) ?_
        refine (Bytes_any a b c d TG _ (by rw [HTZ.out]; decide) HA.out HB.out HC.out HDD.out (HM.out.below hHeld.one.below) (HLM.out.below hHeld.one.below h4 h4) (Nat.le_trans h4 hHeld.one.below.size)).mono ?_
        rw [HBX.out]
        rintro e w' ⟨rfl, hb'⟩
        refine ⟨_, rfl, ?_⟩
        refine hK.out _ _ (hHeld.more hb') (fun hHeld => ?_)
        clear hK K
        refine norm_ (a' := ?_) ?_ ?_
        rotate_left
        · show Act.put _ (some 72) _ = _
          simp only [Act.put, List.setIfInBounds_toArray, List.set_cons_zero, List.set_cons_succ, i64_w, i32_w]
          rfl
        refine pure_ (i := 7) (N := some 73) (v := ?_) (a' := ?_) #[true, true, true, true, true, true, true, true, false, false, false, false, false, false, false, false, false, false, false, false, false, false, false, false, false] rfl rfl (by kernel_rfl) (fun _ _ _ h => h) (Or.inl ⟨by rfl, ?_⟩) ?_ ?_
        rotate_left
        · intro w'
          go_simp
          rfl
        rotate_left
        · simp only [Act.put, List.setIfInBounds_toArray, List.set_cons_zero, List.set_cons_succ, i64_w, i32_w]
          rfl
        refine pure_ (i := 8) (N := some 74) (v := ?_) (a' := ?_) #[true, true, true, true, true, true, true, true, true, false, false, false, false, false, false, false, false, false, false, false, false, false, false, false, false] rfl rfl (by kernel_rfl) (fun _ _ _ h => h) (Or.inl ⟨by rfl, ?_⟩) ?_ ?_
        rotate_left
        · intro w'
          go_simp
          with_reducible rfl
        rotate_left
        · simp only [Act.put, List.setIfInBounds_toArray, List.set_cons_zero, List.set_cons_succ, i64_w, i32_w]
          rfl
        refine pure_ (i := 9) (N := some 75) (v := ?_) (a' := ?_) #[true, true, true, true, true, true, true, true, true, true, false, false, false, false, false, false, false, false, false, false, false, false, false, false, false] rfl rfl (by kernel_rfl) (fun _ _ _ h => h) (Or.inl ⟨by rfl, ?_⟩) ?_ ?_
        rotate_left
        · intro w'
          go_simp
          with_reducible rfl
        rotate_left
        · simp only [Act.put, List.setIfInBounds_toArray, List.set_cons_zero, List.set_cons_succ, i64_w, i32_w]
          rfl
        refine pure_ (i := 10) (N := some 76) (v := ?_) (a' := ?_) #[true, true, true, true, true, true, true, true, true, true, true, false, false, false, false, false, false, false, false, false, false, false, false, false, false] rfl rfl (by kernel_rfl) (fun _ _ _ h => h) (Or.inl ⟨by rfl, ?_⟩) ?_ ?_
        rotate_left
        · intro w'
          go_simp
          with_reducible rfl
        rotate_left
        · simp only [Act.put, List.setIfInBounds_toArray, List.set_cons_zero, List.set_cons_succ, i64_w, i32_w]
          rfl
        refine pure_ (i := 11) (N := some 77) (v := ?_) (a' := ?_) #[true, true, true, true, true, true, true, true, true, true, true, true, false, false, false, false, false, false, false, false, false, false, false, false, false] rfl rfl (by kernel_rfl) (fun _ _ _ h => h) (Or.inl ⟨by rfl, ?_⟩) ?_ ?_
        rotate_left
        · intro w'
          go_simp
          with_reducible rfl
        rotate_left
        · simp only [Act.put, List.setIfInBounds_toArray, List.set_cons_zero, List.set_cons_succ, i64_w, i32_w]
          rfl
        refine take_ (i := 12) (N := some 78) (v := ?_) (a' := ?_) #[true, true, true, true, true, true, true, true, true, true, true, true, true, false, false, false, false, false, false, false, false, false, false, false, false] rfl rfl (by kernel_rfl) (fun _ _ _ h => h) (Or.inl ⟨by rfl, ?_⟩) hHeld ?_ ?_
        rotate_left
        · intro w' hL'
          have o0 := blk_cell hL'.one.blk 0
          have o1 := blk_cell hL'.one.blk 1
          have o2 := blk_cell hL'.one.blk 2
          have o3 := blk_cell hL'.one.blk 3
          have o4 := blk_cell hL'.one.blk 4
          go_simp
          with_reducible rfl
        rotate_left
        · simp only [Act.put, List.setIfInBounds_toArray, List.set_cons_zero, List.set_cons_succ, i64_w, i32_w]
          rfl
        refine take_ (i := 14) (N := some 80) (v := ?_) (a' := ?_) #[true, true, true, true, true, true, true, true, true, true, true, true, true, false, true, false, false, false, false, false, false, false, false, false, false] rfl rfl (by kernel_rfl) (fun _ _ _ h => h) (Or.inl ⟨by rfl, ?_⟩) hHeld ?_ ?_
        rotate_left
        · intro w' hL'
          have o0 := blk_cell hL'.one.blk 0
          have o1 := blk_cell hL'.one.blk 1
          have o2 := blk_cell hL'.one.blk 2
          have o3 := blk_cell hL'.one.blk 3
          have o4 := blk_cell hL'.one.blk 4
          go_simp
          with_reducible rfl
        rotate_left
        · simp only [Act.put, List.setIfInBounds_toArray, List.set_cons_zero, List.set_cons_succ, i64_w, i32_w]
          rfl
        refine take_ (i := 15) (N := some 81) (v := ?_) (a' := ?_) #[true, true, true, true, true, true, true, true, true, true, true, true, true, false, true, true, false, false, false, false, false, false, false, false, false] rfl rfl (by kernel_rfl) (fun _ _ _ h => h) (Or.inl ⟨by rfl, ?_⟩) hHeld ?_ ?_
        rotate_left
        · intro w' hL'
          have q0 := blk_cell hL'.two.blk 0
          have q1 := blk_cell hL'.two.blk 1
          have q2 := blk_cell hL'.two.blk 2
          have q3 := blk_cell hL'.two.blk 3
          have q4 := blk_cell hL'.two.blk 4
          go_simp
          with_reducible rfl
        rotate_left
        · simp only [Act.put, List.setIfInBounds_toArray, List.set_cons_zero, List.set_cons_succ, i64_w, i32_w]
          rfl
        refine pure_ (i := 16) (N := some 82) (v := ?_) (a' := ?_) #[true, true, true, true, true, true, true, true, true, true, true, true, true, false, true, true, true, false, false, false, false, false, false, false, false] rfl rfl (by kernel_rfl) (fun _ _ _ h => h) (Or.inl ⟨by rfl, ?_⟩) ?_ ?_
        rotate_left
        · intro w'
          go_simp
          exact ite_val (c := t.toList = TG.toList) false (by rw [HNE3.out]; simp) _
        rotate_left
        · simp only [Act.put, List.setIfInBounds_toArray, List.set_cons_zero, List.set_cons_succ, i64_w, i32_w]
          rfl
        refine one_ (i := 13) (N := some 79) #[true, true, true, true, true, true, true, true, true, true, true, true, true, true, true, true, true, false, false, false, false, false, false, false, false] rfl rfl (by kernel_rfl) (by decide) (fun K hK => ?_)
        refine goes_ Tryd.func42 (by kernel_rfl) rfl #[.string s, .agg #[.int .i64 a, .int .i64 b, .int .i64 c, .int .i64 d, .string t]] (by rfl) rfl rfl (by simp only [List.map_toArray, List.map_cons, List.map_nil]; rfl) ?_
        refine (Genuine_any s a b c d t _ (by omega) HA.out HB.out HC.out HDD.out (HM.out.below hHeld.one.below) (HD.out.below hHeld.one.below) (HLM.out.below hHeld.one.below h4 h4) (Nat.le_trans h4 hHeld.one.below.size)).mono ?_
        rw [HGG.out]
        rintro e w' ⟨rfl, hb'⟩
        refine ⟨_, rfl, ?_⟩
        refine hK.out _ _ (hHeld.more hb') (fun hHeld => ?_)
        clear hK K
        refine norm_ (a' := ?_) ?_ ?_
        rotate_left
        · show Act.put _ (some 79) _ = _
          simp only [Act.put, List.setIfInBounds_toArray, List.set_cons_zero, List.set_cons_succ, i64_w, i32_w]
          rfl
        refine pure_ (i := 17) (N := some 83) (v := ?_) (a' := ?_) #[true, true, true, true, true, true, true, true, true, true, true, true, true, true, true, true, true, true, false, false, false, false, false, false, false] rfl rfl (by kernel_rfl) (fun _ _ _ h => h) (Or.inl ⟨by rfl, ?_⟩) ?_ ?_
        rotate_left
        · intro w'
          go_simp
          with_reducible rfl
        rotate_left
        · simp only [Act.put, List.setIfInBounds_toArray, List.set_cons_zero, List.set_cons_succ, i64_w, i32_w]
          rfl
        refine pure_ (i := 18) (N := some 84) (v := undef) (a' := ?_) #[true, true, true, true, true, true, true, true, true, true, true, true, true, true, true, true, true, true, true, false, false, false, false, false, false] rfl rfl (by kernel_rfl) (fun _ _ _ h => h) (Or.inr ⟨by rfl, rfl⟩) ?_ ?_
        rotate_left
        · simp only [Act.put, List.setIfInBounds_toArray, List.set_cons_zero, List.set_cons_succ, i64_w, i32_w]
          rfl
        refine pure_ (i := 19) (N := some 85) (v := undef) (a' := ?_) #[true, true, true, true, true, true, true, true, true, true, true, true, true, true, true, true, true, true, true, true, false, false, false, false, false] rfl rfl (by kernel_rfl) (fun _ _ _ h => h) (Or.inr ⟨by rfl, rfl⟩) ?_ ?_
        rotate_left
        · simp only [Act.put, List.setIfInBounds_toArray, List.set_cons_zero, List.set_cons_succ, i64_w, i32_w]
          rfl
        refine pure_ (i := 20) (N := some 86) (v := undef) (a' := ?_) #[true, true, true, true, true, true, true, true, true, true, true, true, true, true, true, true, true, true, true, true, true, false, false, false, false] rfl rfl (by kernel_rfl) (fun _ _ _ h => h) (Or.inr ⟨by rfl, rfl⟩) ?_ ?_
        rotate_left
        · simp only [Act.put, List.setIfInBounds_toArray, List.set_cons_zero, List.set_cons_succ, i64_w, i32_w]
          rfl
        refine pure_ (i := 21) (N := some 87) (v := ?_) (a' := ?_) #[true, true, true, true, true, true, true, true, true, true, true, true, true, true, true, true, true, true, true, true, true, true, false, false, false] rfl rfl (by kernel_rfl) (fun _ _ _ h => h) (Or.inl ⟨by rfl, ?_⟩) ?_ ?_
        rotate_left
        · intro w'
          go_simp
          with_reducible rfl
        rotate_left
        · simp only [Act.put, List.setIfInBounds_toArray, List.set_cons_zero, List.set_cons_succ, i64_w, i32_w]
          rfl
        refine pure_ (i := 22) (N := some 88) (v := ?_) (a' := ?_) #[true, true, true, true, true, true, true, true, true, true, true, true, true, true, true, true, true, true, true, true, true, true, true, false, false] rfl rfl (by kernel_rfl) (fun _ _ _ h => h) (Or.inl ⟨by rfl, ?_⟩) ?_ ?_
        rotate_left
        · intro w'
          go_simp
          with_reducible rfl
        rotate_left
        · simp only [Act.put, List.setIfInBounds_toArray, List.set_cons_zero, List.set_cons_succ, i64_w, i32_w]
          rfl
        refine pure_ (i := 23) (N := some 89) (v := ?_) (a' := ?_) #[true, true, true, true, true, true, true, true, true, true, true, true, true, true, true, true, true, true, true, true, true, true, true, true, false] rfl rfl (by kernel_rfl) (fun _ _ _ h => h) (Or.inl ⟨by rfl, ?_⟩) ?_ ?_
        rotate_left
        · intro w'
          go_simp
          with_reducible rfl
        rotate_left
        · simp only [Act.put, List.setIfInBounds_toArray, List.set_cons_zero, List.set_cons_succ, i64_w, i32_w]
          rfl
        refine pure_ (i := 24) (N := some 4) (v := ?_) (a' := ?_) #[true, true, true, true, true, true, true, true, true, true, true, true, true, true, true, true, true, true, true, true, true, true, true, true, true] rfl rfl (by kernel_rfl) (fun _ _ _ h => h) (Or.inl ⟨by rfl, ?_⟩) ?_ ?_
        rotate_left
        · intro w'
          go_simp
          with_reducible rfl
        rotate_left
        · simp only [Act.put, List.setIfInBounds_toArray, List.set_cons_zero, List.set_cons_succ, i64_w, i32_w]
          rfl
        refine done_ (by kernel_rfl) ?_
        go_wp2
        go_ret
        exact ⟨rfl, hHeld.one.below⟩
      · have HF := Lib.hid hf; clear hf
        have hGX : genuineB s a b c d TG = true := by unfold genuineB; rw [HF.out, HTG.out]; simp
        have hGG : genuineB s a b c d t = false := by unfold genuineB; rw [HTG.out, decide_eq_false (fun e => hst e.symm)]; simp
        have hne3 : (t.toList = TG.toList) = False := by simp only [eq_iff_iff, iff_false]; exact fun e => hst (ext_l e)
        have HNE3 := Lib.hid hne3; clear hne3
        obtain ⟨X, hX⟩ : ∃ X, mkB (bytesL a b c d TG) = X := ⟨_, rfl⟩
        have hXn : X.toList.isEmpty = false := by
          have hl := (bytes_len a b c d TG HF.out).1
          rw [← hX, ByteArray.toList_eq, mkB_list, List.isEmpty_eq_false_iff]; intro h; rw [h] at hl; exact absurd hl (by decide)
        have HXN := Lib.hid hXn; clear hXn
        have HBX := Lib.hid hX; have HGX := Lib.hid hGX; have HGG := Lib.hid hGG; clear hX hGX hGG
        clear hst
        go_wp2_with fail
        refine start_ (n := 25) (S := fun w' => Th w w' g a b c d t h TG k) (ds := []) #[false, false, false, false, false, false, false, false, false, false, false, false, false, false, false, false, false, false, false, false, false, false, false, false, false] (by kernel_rfl) rfl rfl (hHeld.more (below_drew (Below.refl _ _))) (fun hHeld => ?_)
        refine pure_ (i := 0) (N := some 66) (v := ?_) (a' := ?_) #[true, false, false, false, false, false, false, false, false, false, false, false, false, false, false, false, false, false, false, false, false, false, false, false, false] rfl rfl (by kernel_rfl) (fun _ _ _ h => h) (Or.inl ⟨by rfl, ?_⟩) ?_ ?_
        rotate_left
        · intro w'
          go_simp
          with_reducible rfl
        rotate_left
        · simp only [Act.put, List.setIfInBounds_toArray, List.set_cons_zero, List.set_cons_succ, i64_w, i32_w]
          rfl
        refine pure_ (i := 1) (N := some 67) (v := ?_) (a' := ?_) #[true, true, false, false, false, false, false, false, false, false, false, false, false, false, false, false, false, false, false, false, false, false, false, false, false] rfl rfl (by kernel_rfl) (fun _ _ _ h => h) (Or.inl ⟨by rfl, ?_⟩) ?_ ?_
        rotate_left
        · intro w'
          go_simp
          with_reducible rfl
        rotate_left
        · simp only [Act.put, List.setIfInBounds_toArray, List.set_cons_zero, List.set_cons_succ, i64_w, i32_w]
          rfl
        refine pure_ (i := 2) (N := some 68) (v := ?_) (a' := ?_) #[true, true, true, false, false, false, false, false, false, false, false, false, false, false, false, false, false, false, false, false, false, false, false, false, false] rfl rfl (by kernel_rfl) (fun _ _ _ h => h) (Or.inl ⟨by rfl, ?_⟩) ?_ ?_
        rotate_left
        · intro w'
          go_simp
          with_reducible rfl
        rotate_left
        · simp only [Act.put, List.setIfInBounds_toArray, List.set_cons_zero, List.set_cons_succ, i64_w, i32_w]
          rfl
        refine take_ (i := 3) (N := some 69) (v := ?_) (a' := ?_) #[true, true, true, true, false, false, false, false, false, false, false, false, false, false, false, false, false, false, false, false, false, false, false, false, false] rfl rfl (by kernel_rfl) (fun _ _ _ h => h) (Or.inl ⟨by rfl, ?_⟩) hHeld ?_ ?_
        rotate_left
        · intro w' hL'
          have q0 := blk_cell hL'.two.blk 0
          have q1 := blk_cell hL'.two.blk 1
          have q2 := blk_cell hL'.two.blk 2
          have q3 := blk_cell hL'.two.blk 3
          have q4 := blk_cell hL'.two.blk 4
          go_simp
          with_reducible rfl
        rotate_left
        · simp only [Act.put, List.setIfInBounds_toArray, List.set_cons_zero, List.set_cons_succ, i64_w, i32_w]
          rfl
        refine take_ (i := 5) (N := some 71) (v := ?_) (a' := ?_) #[true, true, true, true, false, true, false, false, false, false, false, false, false, false, false, false, false, false, false, false, false, false, false, false, false] rfl rfl (by kernel_rfl) (fun _ _ _ h => h) (Or.inl ⟨by rfl, ?_⟩) hHeld ?_ ?_
        rotate_left
        · intro w' hL'
          have q0 := blk_cell hL'.two.blk 0
          have q1 := blk_cell hL'.two.blk 1
          have q2 := blk_cell hL'.two.blk 2
          have q3 := blk_cell hL'.two.blk 3
          have q4 := blk_cell hL'.two.blk 4
          go_simp
          with_reducible rfl
        rotate_left
        · simp only [Act.put, List.setIfInBounds_toArray, List.set_cons_zero, List.set_cons_succ, i64_w, i32_w]
          rfl
        refine one_ (i := 4) (N := some 70) #[true, true, true, true, true, true, false, false, false, false, false, false, false, false, false, false, false, false, false, false, false, false, false, false, false] rfl rfl (by kernel_rfl) (by decide) (fun K hK => ?_)
        refine goes_ Tryd.func42 (by kernel_rfl) rfl #[.string s, .agg #[.int .i64 a, .int .i64 b, .int .i64 c, .int .i64 d, .string TG]] (by rfl) rfl rfl (by simp only [List.map_toArray, List.map_cons, List.map_nil]; rfl) ?_
        refine (Genuine_any s a b c d TG _ (by omega) HA.out HB.out HC.out HDD.out (HM.out.below hHeld.one.below) (HD.out.below hHeld.one.below) (HLM.out.below hHeld.one.below h4 h4) (Nat.le_trans h4 hHeld.one.below.size)).mono ?_
        rw [HGX.out]
        rintro e w' ⟨rfl, hb'⟩
        refine ⟨_, rfl, ?_⟩
        refine hK.out _ _ (hHeld.more hb') (fun hHeld => ?_)
        clear hK K
        refine norm_ (a' := ?_) ?_ ?_
        rotate_left
        · show Act.put _ (some 70) _ = _
          simp only [Act.put, List.setIfInBounds_toArray, List.set_cons_zero, List.set_cons_succ, i64_w, i32_w]
          rfl
        refine one_ (i := 6) (N := some 72) #[true, true, true, true, true, true, true, false, false, false, false, false, false, false, false, false, false, false, false, false, false, false, false, false, false] rfl rfl (by kernel_rfl) (by decide) (fun K hK => ?_)
        refine goes_ Tryd.func43 (by kernel_rfl) rfl #[.agg #[.int .i64 a, .int .i64 b, .int .i64 c, .int .i64 d, .string TG]] (by rfl) rfl rfl (by simp only [List.map_toArray, List.map_cons, List.map_nil]; rfl) ?_
        refine (Bytes_any a b c d TG _ (by rw [HTZ.out]; decide) HA.out HB.out HC.out HDD.out (HM.out.below hHeld.one.below) (HLM.out.below hHeld.one.below h4 h4) (Nat.le_trans h4 hHeld.one.below.size)).mono ?_
        rw [HBX.out]
        rintro e w' ⟨rfl, hb'⟩
        refine ⟨_, rfl, ?_⟩
        refine hK.out _ _ (hHeld.more hb') (fun hHeld => ?_)
        clear hK K
        refine norm_ (a' := ?_) ?_ ?_
        rotate_left
        · show Act.put _ (some 72) _ = _
          simp only [Act.put, List.setIfInBounds_toArray, List.set_cons_zero, List.set_cons_succ, i64_w, i32_w]
          rfl
        refine pure_ (i := 7) (N := some 73) (v := ?_) (a' := ?_) #[true, true, true, true, true, true, true, true, false, false, false, false, false, false, false, false, false, false, false, false, false, false, false, false, false] rfl rfl (by kernel_rfl) (fun _ _ _ h => h) (Or.inl ⟨by rfl, ?_⟩) ?_ ?_
        rotate_left
        · intro w'
          go_simp
          rw [HXN.out]
        rotate_left
        · simp only [Act.put, List.setIfInBounds_toArray, List.set_cons_zero, List.set_cons_succ, i64_w, i32_w]
          rfl
        refine pure_ (i := 8) (N := some 74) (v := ?_) (a' := ?_) #[true, true, true, true, true, true, true, true, true, false, false, false, false, false, false, false, false, false, false, false, false, false, false, false, false] rfl rfl (by kernel_rfl) (fun _ _ _ h => h) (Or.inl ⟨by rfl, ?_⟩) ?_ ?_
        rotate_left
        · intro w'
          go_simp
          with_reducible rfl
        rotate_left
        · simp only [Act.put, List.setIfInBounds_toArray, List.set_cons_zero, List.set_cons_succ, i64_w, i32_w]
          rfl
        refine pure_ (i := 9) (N := some 75) (v := ?_) (a' := ?_) #[true, true, true, true, true, true, true, true, true, true, false, false, false, false, false, false, false, false, false, false, false, false, false, false, false] rfl rfl (by kernel_rfl) (fun _ _ _ h => h) (Or.inl ⟨by rfl, ?_⟩) ?_ ?_
        rotate_left
        · intro w'
          go_simp
          with_reducible rfl
        rotate_left
        · simp only [Act.put, List.setIfInBounds_toArray, List.set_cons_zero, List.set_cons_succ, i64_w, i32_w]
          rfl
        refine pure_ (i := 10) (N := some 76) (v := ?_) (a' := ?_) #[true, true, true, true, true, true, true, true, true, true, true, false, false, false, false, false, false, false, false, false, false, false, false, false, false] rfl rfl (by kernel_rfl) (fun _ _ _ h => h) (Or.inl ⟨by rfl, ?_⟩) ?_ ?_
        rotate_left
        · intro w'
          go_simp
          with_reducible rfl
        rotate_left
        · simp only [Act.put, List.setIfInBounds_toArray, List.set_cons_zero, List.set_cons_succ, i64_w, i32_w]
          rfl
        refine pure_ (i := 11) (N := some 77) (v := ?_) (a' := ?_) #[true, true, true, true, true, true, true, true, true, true, true, true, false, false, false, false, false, false, false, false, false, false, false, false, false] rfl rfl (by kernel_rfl) (fun _ _ _ h => h) (Or.inl ⟨by rfl, ?_⟩) ?_ ?_
        rotate_left
        · intro w'
          go_simp
          with_reducible rfl
        rotate_left
        · simp only [Act.put, List.setIfInBounds_toArray, List.set_cons_zero, List.set_cons_succ, i64_w, i32_w]
          rfl
        refine take_ (i := 12) (N := some 78) (v := ?_) (a' := ?_) #[true, true, true, true, true, true, true, true, true, true, true, true, true, false, false, false, false, false, false, false, false, false, false, false, false] rfl rfl (by kernel_rfl) (fun _ _ _ h => h) (Or.inl ⟨by rfl, ?_⟩) hHeld ?_ ?_
        rotate_left
        · intro w' hL'
          have o0 := blk_cell hL'.one.blk 0
          have o1 := blk_cell hL'.one.blk 1
          have o2 := blk_cell hL'.one.blk 2
          have o3 := blk_cell hL'.one.blk 3
          have o4 := blk_cell hL'.one.blk 4
          go_simp
          with_reducible rfl
        rotate_left
        · simp only [Act.put, List.setIfInBounds_toArray, List.set_cons_zero, List.set_cons_succ, i64_w, i32_w]
          rfl
        refine take_ (i := 14) (N := some 80) (v := ?_) (a' := ?_) #[true, true, true, true, true, true, true, true, true, true, true, true, true, false, true, false, false, false, false, false, false, false, false, false, false] rfl rfl (by kernel_rfl) (fun _ _ _ h => h) (Or.inl ⟨by rfl, ?_⟩) hHeld ?_ ?_
        rotate_left
        · intro w' hL'
          have o0 := blk_cell hL'.one.blk 0
          have o1 := blk_cell hL'.one.blk 1
          have o2 := blk_cell hL'.one.blk 2
          have o3 := blk_cell hL'.one.blk 3
          have o4 := blk_cell hL'.one.blk 4
          go_simp
          with_reducible rfl
        rotate_left
        · simp only [Act.put, List.setIfInBounds_toArray, List.set_cons_zero, List.set_cons_succ, i64_w, i32_w]
          rfl
        refine take_ (i := 15) (N := some 81) (v := ?_) (a' := ?_) #[true, true, true, true, true, true, true, true, true, true, true, true, true, false, true, true, false, false, false, false, false, false, false, false, false] rfl rfl (by kernel_rfl) (fun _ _ _ h => h) (Or.inl ⟨by rfl, ?_⟩) hHeld ?_ ?_
        rotate_left
        · intro w' hL'
          have q0 := blk_cell hL'.two.blk 0
          have q1 := blk_cell hL'.two.blk 1
          have q2 := blk_cell hL'.two.blk 2
          have q3 := blk_cell hL'.two.blk 3
          have q4 := blk_cell hL'.two.blk 4
          go_simp
          with_reducible rfl
        rotate_left
        · simp only [Act.put, List.setIfInBounds_toArray, List.set_cons_zero, List.set_cons_succ, i64_w, i32_w]
          rfl
        refine pure_ (i := 16) (N := some 82) (v := ?_) (a' := ?_) #[true, true, true, true, true, true, true, true, true, true, true, true, true, false, true, true, true, false, false, false, false, false, false, false, false] rfl rfl (by kernel_rfl) (fun _ _ _ h => h) (Or.inl ⟨by rfl, ?_⟩) ?_ ?_
        rotate_left
        · intro w'
          go_simp
          exact ite_val (c := t.toList = TG.toList) false (by rw [HNE3.out]; simp) _
        rotate_left
        · simp only [Act.put, List.setIfInBounds_toArray, List.set_cons_zero, List.set_cons_succ, i64_w, i32_w]
          rfl
        refine one_ (i := 13) (N := some 79) #[true, true, true, true, true, true, true, true, true, true, true, true, true, true, true, true, true, false, false, false, false, false, false, false, false] rfl rfl (by kernel_rfl) (by decide) (fun K hK => ?_)
        refine goes_ Tryd.func42 (by kernel_rfl) rfl #[.string s, .agg #[.int .i64 a, .int .i64 b, .int .i64 c, .int .i64 d, .string t]] (by rfl) rfl rfl (by simp only [List.map_toArray, List.map_cons, List.map_nil]; rfl) ?_
        refine (Genuine_any s a b c d t _ (by omega) HA.out HB.out HC.out HDD.out (HM.out.below hHeld.one.below) (HD.out.below hHeld.one.below) (HLM.out.below hHeld.one.below h4 h4) (Nat.le_trans h4 hHeld.one.below.size)).mono ?_
        rw [HGG.out]
        rintro e w' ⟨rfl, hb'⟩
        refine ⟨_, rfl, ?_⟩
        refine hK.out _ _ (hHeld.more hb') (fun hHeld => ?_)
        clear hK K
        refine norm_ (a' := ?_) ?_ ?_
        rotate_left
        · show Act.put _ (some 79) _ = _
          simp only [Act.put, List.setIfInBounds_toArray, List.set_cons_zero, List.set_cons_succ, i64_w, i32_w]
          rfl
        refine pure_ (i := 17) (N := some 83) (v := ?_) (a' := ?_) #[true, true, true, true, true, true, true, true, true, true, true, true, true, true, true, true, true, true, false, false, false, false, false, false, false] rfl rfl (by kernel_rfl) (fun _ _ _ h => h) (Or.inl ⟨by rfl, ?_⟩) ?_ ?_
        rotate_left
        · intro w'
          go_simp
          with_reducible rfl
        rotate_left
        · simp only [Act.put, List.setIfInBounds_toArray, List.set_cons_zero, List.set_cons_succ, i64_w, i32_w]
          rfl
        refine pure_ (i := 18) (N := some 84) (v := undef) (a' := ?_) #[true, true, true, true, true, true, true, true, true, true, true, true, true, true, true, true, true, true, true, false, false, false, false, false, false] rfl rfl (by kernel_rfl) (fun _ _ _ h => h) (Or.inr ⟨by rfl, rfl⟩) ?_ ?_
        rotate_left
        · simp only [Act.put, List.setIfInBounds_toArray, List.set_cons_zero, List.set_cons_succ, i64_w, i32_w]
          rfl
        refine pure_ (i := 19) (N := some 85) (v := undef) (a' := ?_) #[true, true, true, true, true, true, true, true, true, true, true, true, true, true, true, true, true, true, true, true, false, false, false, false, false] rfl rfl (by kernel_rfl) (fun _ _ _ h => h) (Or.inr ⟨by rfl, rfl⟩) ?_ ?_
        rotate_left
        · simp only [Act.put, List.setIfInBounds_toArray, List.set_cons_zero, List.set_cons_succ, i64_w, i32_w]
          rfl
        refine pure_ (i := 20) (N := some 86) (v := undef) (a' := ?_) #[true, true, true, true, true, true, true, true, true, true, true, true, true, true, true, true, true, true, true, true, true, false, false, false, false] rfl rfl (by kernel_rfl) (fun _ _ _ h => h) (Or.inr ⟨by rfl, rfl⟩) ?_ ?_
        rotate_left
        · simp only [Act.put, List.setIfInBounds_toArray, List.set_cons_zero, List.set_cons_succ, i64_w, i32_w]
          rfl
        refine pure_ (i := 21) (N := some 87) (v := ?_) (a' := ?_) #[true, true, true, true, true, true, true, true, true, true, true, true, true, true, true, true, true, true, true, true, true, true, false, false, false] rfl rfl (by kernel_rfl) (fun _ _ _ h => h) (Or.inl ⟨by rfl, ?_⟩) ?_ ?_
        rotate_left
        · intro w'
          go_simp
          with_reducible rfl
        rotate_left
        · simp only [Act.put, List.setIfInBounds_toArray, List.set_cons_zero, List.set_cons_succ, i64_w, i32_w]
          rfl
        refine pure_ (i := 22) (N := some 88) (v := ?_) (a' := ?_) #[true, true, true, true, true, true, true, true, true, true, true, true, true, true, true, true, true, true, true, true, true, true, true, false, false] rfl rfl (by kernel_rfl) (fun _ _ _ h => h) (Or.inl ⟨by rfl, ?_⟩) ?_ ?_
        rotate_left
        · intro w'
          go_simp
          with_reducible rfl
        rotate_left
        · simp only [Act.put, List.setIfInBounds_toArray, List.set_cons_zero, List.set_cons_succ, i64_w, i32_w]
          rfl
        refine pure_ (i := 23) (N := some 89) (v := ?_) (a' := ?_) #[true, true, true, true, true, true, true, true, true, true, true, true, true, true, true, true, true, true, true, true, true, true, true, true, false] rfl rfl (by kernel_rfl) (fun _ _ _ h => h) (Or.inl ⟨by rfl, ?_⟩) ?_ ?_
        rotate_left
        · intro w'
          go_simp
          with_reducible rfl
        rotate_left
        · simp only [Act.put, List.setIfInBounds_toArray, List.set_cons_zero, List.set_cons_succ, i64_w, i32_w]
          rfl
        refine pure_ (i := 24) (N := some 4) (v := ?_) (a' := ?_) #[true, true, true, true, true, true, true, true, true, true, true, true, true, true, true, true, true, true, true, true, true, true, true, true, true] rfl rfl (by kernel_rfl) (fun _ _ _ h => h) (Or.inl ⟨by rfl, ?_⟩) ?_ ?_
        rotate_left
        · intro w'
          go_simp
          with_reducible rfl
        rotate_left
        · simp only [Act.put, List.setIfInBounds_toArray, List.set_cons_zero, List.set_cons_succ, i64_w, i32_w]
          rfl
        refine done_ (by kernel_rfl) ?_
        go_wp2
        go_ret
        exact ⟨rfl, hHeld.one.below⟩
  · rw [decide_eq_false hsh]
    rintro e w2 ⟨rfl, rfl⟩
    go_wp2
    go_ret
    exact ⟨rfl, G1.out.below⟩
end Go.Proofs.YtdgejkiackeieaaDoor.Gm
end
section
set_option linter.unusedVariables false
set_option linter.unusedSimpArgs false
/- The order of the encodings of layer 2: two encodings of one kind differ at a byte, and there as their values do. No program in sight. -/
set_option linter.unusedVariables false
set_option linter.unusedSimpArgs false
namespace Go.Proofs.YtdgejkiackeieaaDoor.Wr
/-- Two strings differ at a byte: -1 if the first one's is less, 1 if it is greater. -/
def Diff (c : Int) (s t : List UInt8) : Prop := ∃ p a b s' t', s = p ++ a :: s' ∧ t = p ++ b :: t' ∧ ((a < b ∧ c = -1) ∨ (b < a ∧ c = 1))
theorem Diff.app {c : Int} {s t : List UInt8} (h : Diff c s t) (u v : List UInt8) : Diff c (s ++ u) (t ++ v) := by
  obtain ⟨p, a, b, s', t', rfl, rfl, hc⟩ := h
  exact ⟨p, a, b, s' ++ u, t' ++ v, by simp, by simp, hc⟩
theorem Diff.pre {c : Int} {s t : List UInt8} (h : Diff c s t) (q : List UInt8) : Diff c (q ++ s) (q ++ t) := by
  obtain ⟨p, a, b, s', t', rfl, rfl, hc⟩ := h
  exact ⟨q ++ p, a, b, s', t', by simp, by simp, hc⟩
theorem Diff.cons {c : Int} {s t : List UInt8} (h : Diff c s t) (x : UInt8) : Diff c (x :: s) (x :: t) := h.pre [x]
theorem Diff.swap {c : Int} {s t : List UInt8} (h : Diff c s t) : Diff (-c) t s := by
  obtain ⟨p, a, b, s', t', rfl, rfl, hc⟩ := h
  refine ⟨p, b, a, t', s', rfl, rfl, ?_⟩
  rcases hc with ⟨h1, h2⟩ | ⟨h1, h2⟩
  · right; exact ⟨h1, by omega⟩
  · left; exact ⟨h1, by omega⟩
theorem Diff.here {a b : UInt8} (h : a < b) (s t : List UInt8) : Diff (-1) (a :: s) (b :: t) := ⟨[], a, b, s, t, rfl, rfl, .inl ⟨h, rfl⟩⟩
theorem u8_lt_irrefl (a : UInt8) : ¬ a < a := by rw [UInt8.lt_iff_toNat_lt]; omega
theorem u8_lt_asymm {a b : UInt8} (h : a < b) : ¬ b < a := by rw [UInt8.lt_iff_toNat_lt] at *; omega
theorem u8_lt_ne {a b : UInt8} (h : a < b) : a ≠ b := by rintro rfl; exact u8_lt_irrefl a h
theorem Diff.prefix {c : Int} {s t : List UInt8} (h : Diff c s t) : ¬ s <+: t := by
  obtain ⟨p, a, b, s', t', rfl, rfl, hc⟩ := h
  rw [List.prefix_append_right_inj, List.cons_prefix_cons]
  rintro ⟨rfl, _⟩
  rcases hc with ⟨h, _⟩ | ⟨h, _⟩ <;> exact u8_lt_irrefl _ h
theorem Diff.ne {c : Int} {s t : List UInt8} (h : Diff c s t) : s ≠ t := by rintro rfl; exact h.prefix (List.prefix_refl _)
theorem less_pre (p s t : List UInt8) : Op.bytesLess (p ++ s) (p ++ t) = Op.bytesLess s t := by
  induction p with
  | nil => rfl
  | cons a p ih => simp only [List.cons_append, Op.bytesLess, ih]; simp [u8_lt_irrefl]
theorem Diff.less {c : Int} {s t : List UInt8} (h : Diff c s t) : Op.bytesLess s t = decide (c = -1) := by
  obtain ⟨p, a, b, s', t', rfl, rfl, hc⟩ := h
  rw [less_pre]
  rcases hc with ⟨h, rfl⟩ | ⟨h, rfl⟩
  · simp [Op.bytesLess, h]
  · have h1 := u8_lt_asymm h
    have h2 : a ≠ b := fun e => u8_lt_irrefl b (e ▸ h)
    simp [Op.bytesLess, h1, h2]
theorem Diff.val {c : Int} {s t : List UInt8} (h : Diff c s t) : c = -1 ∨ c = 1 := by
  obtain ⟨_, _, _, _, _, _, _, hc⟩ := h
  rcases hc with ⟨_, h⟩ | ⟨_, h⟩
  · exact .inl h
  · exact .inr h
theorem less_irrefl (s : List UInt8) : Op.bytesLess s s = false := by
  induction s with
  | nil => rfl
  | cons a s ih => simp [Op.bytesLess, ih, u8_lt_irrefl]
/-- Comparing two strings: -1, 0 or 1. -/
def cmpL : List UInt8 → List UInt8 → Int
  | [], [] => 0
  | [], _ :: _ => -1
  | _ :: _, [] => 1
  | a :: x, b :: y => if a < b then -1 else if b < a then 1 else cmpL x y
theorem u8_eq_of {a b : UInt8} (h1 : ¬ a < b) (h2 : ¬ b < a) : a = b := by
  rw [UInt8.lt_iff_toNat_lt] at h1 h2
  exact UInt8.toNat_inj.1 (by omega)
theorem cmpL_spec (x : List UInt8) : ∀ y, (cmpL x y = 0 ↔ x = y) ∧ Op.bytesLess x y = decide (cmpL x y = -1) ∧ (cmpL x y = -1 ∨ cmpL x y = 0 ∨ cmpL x y = 1) := by
  induction x with
  | nil => intro y; cases y <;> simp [cmpL, Op.bytesLess]
  | cons a x ih =>
    intro y
    cases y with
    | nil => simp [cmpL, Op.bytesLess]
    | cons b y =>
      by_cases h1 : a < b
      · simp [cmpL, Op.bytesLess, h1, u8_lt_ne h1]
      · by_cases h2 : b < a
        · simp [cmpL, Op.bytesLess, h1, h2, (u8_lt_ne h2).symm]
        · obtain rfl := u8_eq_of h1 h2
          obtain ⟨i1, i2, i3⟩ := ih y
          refine ⟨?_, ?_, ?_⟩
          · simp [cmpL, h1, i1]
          · simp [cmpL, Op.bytesLess, h1, i2]
          · simpa [cmpL, h1] using i3
/-! ### integers -/
theorem beR_diff (k : Nat) : ∀ a b : Nat, a < 256 ^ k → b < 256 ^ k → a < b → Diff (-1) (beR k a) (beR k b) := by
  induction k with
  | zero => intro a b ha hb h; simp at ha hb; omega
  | succ k ih =>
    intro a b ha hb h
    rw [beR_snoc, beR_snoc]
    by_cases he : a / 256 = b / 256
    · rw [he]
      refine Diff.pre (Diff.here ?_ _ _) _
      rw [UInt8.lt_iff_toNat_lt]
      have h1 : a % 256 < 256 := Nat.mod_lt _ (by decide)
      have h2 : b % 256 < 256 := Nat.mod_lt _ (by decide)
      simp only [UInt8.toNat_ofNat', Nat.reducePow, Nat.mod_mod]
      omega
    · refine Diff.app (ih _ _ ?_ ?_ (by omega)) _ _
      · rw [Nat.pow_succ] at ha; omega
      · rw [Nat.pow_succ] at hb; omega
theorem inv_lt {a b : UInt8} (h : a < b) : inv b < inv a := by
  rw [UInt8.lt_iff_toNat_lt] at *
  rw [inv_toNat, inv_toNat]
  have := b.toNat_lt
  omega
theorem diff_inv {c : Int} {s t : List UInt8} (h : Diff c s t) : Diff (-c) (s.map inv) (t.map inv) := by
  obtain ⟨p, a, b, s', t', rfl, rfl, hc⟩ := h
  refine ⟨p.map inv, inv a, inv b, s'.map inv, t'.map inv, by simp, by simp, ?_⟩
  rcases hc with ⟨h1, h2⟩ | ⟨h1, h2⟩
  · right; exact ⟨inv_lt h1, by omega⟩
  · left; exact ⟨inv_lt h1, by omega⟩
theorem ofNat_lt {a b : Nat} (h : a < b) (hb : b < 256) : UInt8.ofNat a < UInt8.ofNat b := by
  rw [UInt8.lt_iff_toNat_lt]
  simp only [UInt8.toNat_ofNat', Nat.reducePow]
  omega
theorem int_pos_diff (a b : Nat) (h : a < b) (hb : b < 9223372036854775808) : Diff (-1) (intB (a : Int)) (intB (b : Int)) := by
  rw [intB_pos, intB_pos]
  have hb8 := pow8 hb
  have ha8 : a < 256 ^ 8 := Nat.lt_trans h hb8
  have hm := mlen_mono (Nat.le_of_lt h) hb8
  by_cases he : mlen a = mlen b
  · rw [he]
    refine Diff.cons (beR_diff _ _ _ ?_ (mlen_lt hb8) h) _
    have := mlen_lt ha8; rw [he] at this; exact this
  · have := mlen_le8 hb8
    exact Diff.here (ofNat_lt (by omega) (by omega)) _ _
theorem int_neg_diff (a b : Nat) (h : a < b) (hb : b < 9223372036854775808) : Diff (-1) (intB (-1 - (b : Int))) (intB (-1 - (a : Int))) := by
  rw [intB_neg, intB_neg]
  have hb8 := pow8 hb
  have ha8 : a < 256 ^ 8 := Nat.lt_trans h hb8
  have hm := mlen_mono (Nat.le_of_lt h) hb8
  by_cases he : mlen a = mlen b
  · rw [he]
    refine Diff.cons ?_ _
    have h1 := diff_inv (beR_diff (mlen b) a b (by have := mlen_lt ha8; rw [he] at this; exact this) (mlen_lt hb8) h)
    exact h1.swap
  · have := mlen_le8 hb8
    exact Diff.here (ofNat_lt (by omega) (by omega)) _ _
theorem int_diff {a b : Int} (ha : InR a) (hb : InR b) (h : a < b) : Diff (-1) (intB a) (intB b) := by
  unfold InR at ha hb
  by_cases h0 : 0 ≤ a
  · obtain ⟨m, rfl⟩ := Int.eq_ofNat_of_zero_le h0
    obtain ⟨n, rfl⟩ := Int.eq_ofNat_of_zero_le (show 0 ≤ b by omega)
    exact int_pos_diff m n (by omega) (by omega)
  · obtain ⟨m, hm⟩ := Int.eq_ofNat_of_zero_le (show 0 ≤ -1 - a by omega)
    obtain rfl : a = -1 - (m : Int) := by omega
    by_cases h1 : 0 ≤ b
    · obtain ⟨n, rfl⟩ := Int.eq_ofNat_of_zero_le h1
      rw [intB_pos, intB_neg]
      have := mlen_le8 (pow8 (show n < 9223372036854775808 by omega))
      exact Diff.here (ofNat_lt (by omega) (by omega)) _ _
    · obtain ⟨n, hn⟩ := Int.eq_ofNat_of_zero_le (show 0 ≤ -1 - b by omega)
      obtain rfl : b = -1 - (n : Int) := by omega
      exact int_neg_diff n m (by omega) (by omega)
/-- Comparing two numbers. -/
def cmpI (a b : Int) : Int := if a < b then -1 else if b < a then 1 else 0
theorem cmpI_zero {a b : Int} : cmpI a b = 0 ↔ a = b := by unfold cmpI; split <;> (try split) <;> omega
theorem cmpI_diff {a b : Int} (ha : InR a) (hb : InR b) (h : cmpI a b ≠ 0) : Diff (cmpI a b) (intB a) (intB b) := by
  unfold cmpI at h ⊢
  by_cases h1 : a < b
  · rw [if_pos h1]; exact int_diff ha hb h1
  · rw [if_neg h1] at h ⊢
    by_cases h2 : b < a
    · rw [if_pos h2]; exact (int_diff hb ha h2).swap
    · rw [if_neg h2] at h; exact absurd rfl h
/-! ### strings -/
theorem textB_cons' (c : UInt8) (l : List UInt8) : textB (c :: l) = c :: (if c = 0 then 255 :: textB l else textB l) := by
  rw [textB_cons]
  by_cases h : c = 0
  · subst h; rfl
  · rw [if_neg h, if_neg h]; rfl
theorem u8_pos {c : UInt8} (h : c ≠ 0) : (0 : UInt8) < c := by
  rw [UInt8.lt_iff_toNat_lt]
  have : c.toNat ≠ 0 := fun e => h (UInt8.toNat_inj.1 e)
  show 0 < c.toNat
  omega
theorem text_diff (x : List UInt8) : ∀ y, cmpL x y ≠ 0 → Diff (cmpL x y) (textB x) (textB y) := by
  induction x with
  | nil =>
    intro y h
    cases y with
    | nil => exact absurd rfl h
    | cons b y =>
      rw [textB_nil, textB_cons']
      show Diff (-1) _ _
      by_cases hb : b = 0
      · subst hb; rw [if_pos rfl]; exact (Diff.here (by decide) _ _).cons 0
      · rw [if_neg hb]; exact Diff.here (u8_pos hb) _ _
  | cons a x ih =>
    intro y h
    cases y with
    | nil =>
      rw [textB_nil, textB_cons']
      show Diff 1 _ _
      by_cases hb : a = 0
      · subst hb; rw [if_pos rfl]; exact (Diff.cons (Diff.here (by decide) _ _) 0).swap
      · rw [if_neg hb]; exact (Diff.here (u8_pos hb) _ _).swap
    | cons b y =>
      rw [textB_cons', textB_cons']
      by_cases h1 : a < b
      · have e : cmpL (a :: x) (b :: y) = -1 := by simp [cmpL, h1]
        rw [e]; exact Diff.here h1 _ _
      · by_cases h2 : b < a
        · have e : cmpL (a :: x) (b :: y) = 1 := by simp [cmpL, h1, h2]
          rw [e]; exact (Diff.here h2 _ _).swap
        · obtain rfl := u8_eq_of h1 h2
          have e : cmpL (a :: x) (a :: y) = cmpL x y := by simp [cmpL, h1]
          rw [e] at h ⊢
          have := ih y h
          by_cases h0 : a = 0
          · rw [if_pos h0, if_pos h0]; exact (this.cons 255).cons a
          · rw [if_neg h0, if_neg h0]; exact this.cons a
/-! ### lists -/
end Go.Proofs.YtdgejkiackeieaaDoor.Wr
end
section
set_option linter.unusedVariables false
set_option linter.unusedSimpArgs false
/- Layer 24: the order of the encodings of telegrams, in plain words. -/
set_option linter.unusedVariables false
set_option linter.unusedSimpArgs false
namespace Go.Proofs.YtdgejkiackeieaaDoor.Gm
open Go.RowKit Go.Proofs.YtdgejkiackeieaaDoor Go.Proofs.YtdgejkiackeieaaDoor.Wr
/-- What two encodings that differ tell: which is less, and that they differ. -/
def Tells (S T : List UInt8) (x y : Int) : Prop := Op.bytesLess S T = decide (x < y) ∧ (S == T) = false
theorem tells_of {S T : List UInt8} {x y : Int} (hx : InR x) (hy : InR y) (hne : x ≠ y) (p u v : List UInt8) (hS : S = p ++ (intB x ++ u)) (hT : T = p ++ (intB y ++ v)) : Tells S T x y := by
  have h0 : cmpI x y ≠ 0 := fun h => hne (cmpI_zero.1 h)
  have hd : Diff (cmpI x y) S T := by rw [hS, hT]; exact ((cmpI_diff hx hy h0).app u v).pre p
  refine ⟨?_, ?_⟩
  · rw [hd.less]
    unfold cmpI
    by_cases h1 : x < y
    · simp [h1]
    · by_cases h2 : y < x
      · simp [h1, h2]
      · omega
  · exact beq_eq_false_iff_ne.2 hd.ne
theorem bytes_form {a b c d : Int} {t : ByteArray} (h : formedB a b c d t = true) : bytesL a b c d t = intB a ++ (intB b ++ (intB c ++ (intB d ++ textB t.data.toList))) := by
  unfold bytesL coreB; rw [if_pos h]; simp only [List.append_assoc]
section
variable {a b c d a' b' c' d' : Int} {t t' : ByteArray} (h : formedB a b c d t = true) (h' : formedB a' b' c' d' t' = true)
include h h'
theorem order0 (hne : a ≠ a') : Tells (bytesL a b c d t) (bytesL a' b' c' d' t') a a' := by
  obtain ⟨i1, i2, i3, i4⟩ := inr_of (okN_of h).1
  obtain ⟨j1, j2, j3, j4⟩ := inr_of (okN_of h').1
  exact tells_of i1 j1 hne [] _ _ (bytes_form h) (bytes_form h')
theorem order1 (e0 : a = a') (hne : b ≠ b') : Tells (bytesL a b c d t) (bytesL a' b' c' d' t') b b' := by
  obtain ⟨i1, i2, i3, i4⟩ := inr_of (okN_of h).1
  obtain ⟨j1, j2, j3, j4⟩ := inr_of (okN_of h').1
  subst e0
  exact tells_of i2 j2 hne (intB a) _ _ (bytes_form h) (bytes_form h')
theorem order2 (e0 : a = a') (e1 : b = b') (hne : c ≠ c') : Tells (bytesL a b c d t) (bytesL a' b' c' d' t') c c' := by
  obtain ⟨i1, i2, i3, i4⟩ := inr_of (okN_of h).1
  obtain ⟨j1, j2, j3, j4⟩ := inr_of (okN_of h').1
  subst e0 e1
  exact tells_of i3 j3 hne (intB a ++ intB b) (intB d ++ textB t.data.toList) (intB d' ++ textB t'.data.toList) (by rw [bytes_form h]; simp only [List.append_assoc]) (by rw [bytes_form h']; simp only [List.append_assoc])
theorem order3 (e0 : a = a') (e1 : b = b') (e2 : c = c') (hne : d ≠ d') : Tells (bytesL a b c d t) (bytesL a' b' c' d' t') d d' := by
  obtain ⟨i1, i2, i3, i4⟩ := inr_of (okN_of h).1
  obtain ⟨j1, j2, j3, j4⟩ := inr_of (okN_of h').1
  subst e0 e1 e2
  exact tells_of i4 j4 hne (intB a ++ intB b ++ intB c) (textB t.data.toList) (textB t'.data.toList) (by rw [bytes_form h]; simp only [List.append_assoc]) (by rw [bytes_form h']; simp only [List.append_assoc])
theorem order4 (e0 : a = a') (e1 : b = b') (e2 : c = c') (e3 : d = d') : Op.bytesLess (bytesL a b c d t) (bytesL a' b' c' d' t') = Op.bytesLess t.toList t'.toList ∧ (bytesL a b c d t == bytesL a' b' c' d' t') = decide (t = t') := by
  subst e0 e1 e2 e3
  rw [bytes_form h, bytes_form h', ByteArray.toList_eq, ByteArray.toList_eq]
  obtain ⟨s0, s1, s2⟩ := cmpL_spec t.data.toList t'.data.toList
  by_cases he : cmpL t.data.toList t'.data.toList = 0
  · have e := s0.1 he
    have et : t = t' := ext_ e
    subst et
    simp [less_irrefl]
  · have hd := text_diff _ _ he
    have hd2 : Diff (cmpL t.data.toList t'.data.toList) (intB a ++ (intB b ++ (intB c ++ (intB d ++ textB t.data.toList)))) (intB a ++ (intB b ++ (intB c ++ (intB d ++ textB t'.data.toList)))) := (((hd.pre _).pre _).pre _).pre _
    refine ⟨by rw [hd2.less, s1], ?_⟩
    rw [beq_eq_false_iff_ne.2 hd2.ne, decide_eq_false]
    rintro rfl
    exact he (s0.2 rfl)
end
end Go.Proofs.YtdgejkiackeieaaDoor.Gm
end
section
set_option linter.unusedVariables false
set_option linter.unusedSimpArgs false
/- The walk of GramOrders. -/
set_option linter.unusedVariables false
set_option linter.unusedSimpArgs false
namespace Go.Proofs.YtdgejkiackeieaaDoor.Gm
open Go.RowKit Go.Proofs.YtdgejkiackeieaaDoor Go.Proofs.YtdgejkiackeieaaDoor.Wr Go.Proofs.YtdgejkiackeieaaDoorW.PrintWords Go.Proofs.YtdgejkiackeieaaDoorW.PrintMore Go.Proofs.YtdgejkiackeieaaDoorW.PrintLast
/-- The two telegrams and the two rows of their numbers. -/
structure Fo (w0 w : World) (g : Nat) (a b c d : Int) (t : ByteArray) (h : Nat) (a' b' c' d' : Int) (t' : ByteArray) (p q : Nat) : Prop where
  two : Two w0 w g a b c d t h a' b' c' d' t'
  fst : ∃ fr, w.heap[p]? = some (.cells #[.int .i64 a, .int .i64 b, .int .i64 c, .int .i64 d] 3 fr)
  snd : ∃ fr, w.heap[q]? = some (.cells #[.int .i64 a', .int .i64 b', .int .i64 c', .int .i64 d'] 3 fr)
theorem Fo.more {w0 w w' : World} {g : Nat} {a b c d : Int} {t : ByteArray} {h : Nat} {a' b' c' d' : Int} {t' : ByteArray} {p q : Nat} (H : Fo w0 w g a b c d t h a' b' c' d' t' p q) (hb : Below w.heap.size w w') : Fo w0 w' g a b c d t h a' b' c' d' t' p q := by
  obtain ⟨h1, ⟨fr, h2⟩, ⟨fr', h3⟩⟩ := H
  exact ⟨h1.more hb, ⟨fr, (hb.block p (Array.getElem?_eq_some_iff.1 h2).1).trans h2⟩, ⟨fr', (hb.block q (Array.getElem?_eq_some_iff.1 h3).1).trans h3⟩⟩
theorem Fo.more' {w0 w w' : World} {g : Nat} {a b c d : Int} {t : ByteArray} {h : Nat} {a' b' c' d' : Int} {t' : ByteArray} {p q : Nat} (H : Hid (Fo w0 w g a b c d t h a' b' c' d' t' p q)) (hb : Below w.heap.size w w') : Hid (Fo w0 w' g a b c d t h a' b' c' d' t' p q) := Lib.hid (H.out.more hb)
set_option maxHeartbeats 8000000 in
set_option maxRecDepth 100000 in
theorem GramOrders_any (a b c d : Int) (t : ByteArray) (a' b' c' d' : Int) (t' : ByteArray) (w : World) (ha : InR a) (hb : InR b) (hc : InR c) (hd : InR d) (ha' : InR a') (hb' : InR b') (hc' : InR c') (hd' : InR d') (hM : MaxW w) (hD : DigW w) (hL : LimW w) (h4 : 4 ≤ w.heap.size) : Calls Tryd.prog 24 #[.agg #[.int .i64 a, .int .i64 b, .int .i64 c, .int .i64 d, .string t], .agg #[.int .i64 a', .int .i64 b', .int .i64 c', .int .i64 d', .string t']] w fun e w' => e = .returned (.bool true) ∧ Below w.heap.size w w' := by
  have HM := Lib.hid hM; have HD := Lib.hid hD; have HLM := Lib.hid hL; have HA := Lib.hid ha; have HB := Lib.hid hb; have HC := Lib.hid hc; have HDD := Lib.hid hd
  have HA' := Lib.hid ha'; have HB' := Lib.hid hb'; have HC' := Lib.hid hc'; have HDD' := Lib.hid hd'
  clear hM hD hL ha hb hc hd ha' hb' hc' hd'
  go_enter Tryd.func24, Tryd.ntmps24
  go_wp2_with fail
  obtain ⟨W, hW⟩ : ∃ W, ((w.alloc (Obj.cells #[Value.int .i64 a, Value.int .i64 b, Value.int .i64 c, Value.int .i64 d, Value.string t] 34)).alloc (Obj.cells #[Value.int .i64 a', Value.int .i64 b', Value.int .i64 c', Value.int .i64 d', Value.string t'] 34)) = W := ⟨_, rfl⟩
  obtain ⟨g, hg⟩ : ∃ g, w.heap.size = g := ⟨_, rfl⟩
  obtain ⟨h, hh⟩ : ∃ h, g + 1 = h := ⟨_, rfl⟩
  have G0 : Hid (Two w W g a b c d t h a' b' c' d' t') := Lib.hid (by
    have hB : Below w.heap.size w W := by rw [← hW]; exact ((Below.refl _ _).alloc (Nat.le_refl _) _).alloc (by simp) _
    refine ⟨⟨?_, hB, by omega⟩, ⟨?_, hB, by omega⟩⟩
    · rw [← hW, ← hg]; exact (((Below.refl _ (w.alloc _)).alloc (Nat.le_refl _) _).block w.heap.size (by simp)).trans (heap_alloc_new w _)
    · rw [← hW, ← hh, ← hg]; simpa using heap_alloc_new (w.alloc _) _)
  rw [hW]
  rw [hg, hh]
  clear hW hg hh
  refine (small24_any W (HM.out.below G0.out.one.below) (HD.out.below G0.out.one.below) (HLM.out.below G0.out.one.below h4 h4) (Nat.le_trans h4 G0.out.one.below.size)).mono ?_
  rintro e w1 ⟨rfl, b1⟩
  have G1 := Lib.hid (G0.out.more b1); clear b1
  have c4 := blk_cell G1.out.one.blk 4; have d4 := blk_cell G1.out.two.blk 4
  go_wp2_with fail
  clear c4 d4
  refine (short_any t t' ⟨#[]⟩ w1).mono ?_
  by_cases hsh : t.size ≤ 300 ∧ t'.size ≤ 300 ∧ (⟨#[]⟩ : ByteArray).size ≤ 300
  · rw [decide_eq_true hsh]
    rintro e w2 ⟨rfl, rfl⟩
    obtain ⟨hs1, hs2, _⟩ := hsh
    have c0 := blk_cell G1.out.one.blk 0; have c1 := blk_cell G1.out.one.blk 1; have c2 := blk_cell G1.out.one.blk 2; have c3 := blk_cell G1.out.one.blk 3; have c4 := blk_cell G1.out.one.blk 4
    go_wp2_with fail
    clear c0 c1 c2 c3 c4
    refine (Bytes_any a b c d t w2 (by omega) HA.out HB.out HC.out HDD.out (HM.out.below G1.out.one.below) (HLM.out.below G1.out.one.below h4 h4) (Nat.le_trans h4 G1.out.one.below.size)).mono ?_
    rintro e w3 ⟨rfl, b3⟩
    have G3 := Lib.hid (G1.out.more b3); clear b3
    have c0 := blk_cell G3.out.two.blk 0; have c1 := blk_cell G3.out.two.blk 1; have c2 := blk_cell G3.out.two.blk 2; have c3 := blk_cell G3.out.two.blk 3; have c4 := blk_cell G3.out.two.blk 4
    go_wp2_with fail
    clear c0 c1 c2 c3 c4
    refine (Bytes_any a' b' c' d' t' w3 (by omega) HA'.out HB'.out HC'.out HDD'.out (HM.out.below G3.out.one.below) (HLM.out.below G3.out.one.below h4 h4) (Nat.le_trans h4 G3.out.one.below.size)).mono ?_
    rintro e w4 ⟨rfl, b4⟩
    have G4 := Lib.hid (G3.out.more b4); clear b4
    cases hf : formedB a b c d t
    · rw [bytes_no hf]
      have HF := Lib.hid hf; clear hf
      go_wp2
      go_ret
      exact ⟨rfl, G4.out.one.below⟩
    · cases hf' : formedB a' b' c' d' t'
      · rw [bytes_no hf']
        have hl := (bytes_len a b c d t hf).1
        obtain ⟨S, hS⟩ : ∃ S, mkB (bytesL a b c d t) = S := ⟨_, rfl⟩
        have hSn : S.toList.isEmpty = false := by rw [← hS, ByteArray.toList_eq, mkB_list, List.isEmpty_eq_false_iff]; intro h; rw [h] at hl; exact absurd hl (by decide)
        rw [hS]
        clear hl hS hf hf'
        go_wp2
        go_ret
        exact ⟨rfl, G4.out.one.below⟩
      · have hl := (bytes_len a b c d t hf).1
        have hl' := (bytes_len a' b' c' d' t' hf').1
        obtain ⟨S, hS⟩ : ∃ S, mkB (bytesL a b c d t) = S := ⟨_, rfl⟩
        obtain ⟨T, hT⟩ : ∃ S, mkB (bytesL a' b' c' d' t') = S := ⟨_, rfl⟩
        have hSl : S.toList = bytesL a b c d t := by rw [← hS, ByteArray.toList_eq]
        have hTl : T.toList = bytesL a' b' c' d' t' := by rw [← hT, ByteArray.toList_eq]
        have hSn : S.toList.isEmpty = false := by rw [hSl, List.isEmpty_eq_false_iff]; intro h; rw [h] at hl; exact absurd hl (by decide)
        have hTn : T.toList.isEmpty = false := by rw [hTl, List.isEmpty_eq_false_iff]; intro h; rw [h] at hl'; exact absurd hl' (by decide)
        rw [hS, hT]
        have HSL := Lib.hid hSl; have HTL := Lib.hid hTl; have HF := Lib.hid hf; have HF' := Lib.hid hf'
        clear hl hl' hS hT hSl hTl hf hf'
        go_upto_region 8 with fail
        clear hSn hTn
        have c0 := blk_cell G4.out.one.blk 0; have c1 := blk_cell G4.out.one.blk 1; have c2 := blk_cell G4.out.one.blk 2; have c3 := blk_cell G4.out.one.blk 3
        go_upto_region 9 with fail
        clear c0 c1 c2 c3
        obtain ⟨p, hp⟩ : ∃ p, w4.heap.size = p := ⟨_, rfl⟩
        obtain ⟨W5, hW5⟩ : ∃ W5, (w4.alloc (Obj.cells #[Value.int .i64 a, Value.int .i64 b, Value.int .i64 c, Value.int .i64 d] 3)) = W5 := ⟨_, rfl⟩
        have B5 : Below w4.heap.size w4 W5 := by rw [← hW5]; exact (Below.refl _ _).alloc (Nat.le_refl _) _
        have N5 : W5.heap[p]? = some (.cells #[Value.int .i64 a, Value.int .i64 b, Value.int .i64 c, Value.int .i64 d] 3 (0, 0)) := by rw [← hW5, ← hp]; exact heap_alloc_new w4 _
        have G5 := Lib.hid (G4.out.more B5); have HN5 := Lib.hid N5
        rw [hW5, hp]
        clear hW5 hp B5 N5
        have d0 := blk_cell G5.out.two.blk 0; have d1 := blk_cell G5.out.two.blk 1; have d2 := blk_cell G5.out.two.blk 2; have d3 := blk_cell G5.out.two.blk 3
        go_upto_region 10 with fail
        clear d0 d1 d2 d3
        obtain ⟨q, hq⟩ : ∃ q, W5.heap.size = q := ⟨_, rfl⟩
        obtain ⟨W6, hW6⟩ : ∃ W6, (W5.alloc (Obj.cells #[Value.int .i64 a', Value.int .i64 b', Value.int .i64 c', Value.int .i64 d'] 3)) = W6 := ⟨_, rfl⟩
        have B6 : Below W5.heap.size W5 W6 := by rw [← hW6]; exact (Below.refl _ _).alloc (Nat.le_refl _) _
        have F6 : Hid (Fo w W6 g a b c d t h a' b' c' d' t' p q) := Lib.hid ⟨G5.out.more B6, ⟨_, (B6.block p (blk_lt HN5.out)).trans HN5.out⟩, ⟨_, by rw [← hW6, ← hq]; exact heap_alloc_new W5 _⟩⟩
        rw [hW6, hq]
        clear hW6 hq B6 HN5
        go_wp2_with fail
        go_loopw [10] (fun i wr => ∃ k : Nat, k ≤ 4 ∧ i = .int .i64 k ∧ Hid (Fo w wr g a b c d t h a' b' c' d' t' p q) ∧ Hid ((1 ≤ k → a = a') ∧ (2 ≤ k → b = b') ∧ (3 ≤ k → c = c') ∧ (4 ≤ k → d = d'))) (fun i _ => 4 - (intOf i).toNat)
        case atStart => exact ⟨0, by omega, rfl, F6, Lib.hid ⟨by omega, by omega, by omega, by omega⟩⟩
        case round =>
          obtain ⟨k, hk, rfl, hF, hE⟩ := hrel
          have hk' : k = 0 ∨ k = 1 ∨ k = 2 ∨ k = 3 ∨ k = 4 := by omega
          rcases hk' with rfl | rfl | rfl | rfl | rfl
          · obtain ⟨fr, l1⟩ := hF.out.fst
            obtain ⟨fr', l2⟩ := hF.out.snd
            have c0 : wr.cell? ⟨p, 0, none⟩ = some (.int .i64 a) := (cellF l1 0).trans rfl
            have d0 : wr.cell? ⟨q, 0, none⟩ = some (.int .i64 a') := (cellF l2 0).trans rfl
            clear l1 l2
            by_cases he : a = a'
            · have hE2 : Hid ((1 ≤ 1 → a = a') ∧ (2 ≤ 1 → b = b') ∧ (3 ≤ 1 → c = c') ∧ (4 ≤ 1 → d = d')) := Lib.hid ⟨fun h => he, fun h => absurd h (by omega), fun h => absurd h (by omega), fun h => absurd h (by omega)⟩
              have hb1 : (a != a') = false := by simpa using he
              have hb2 : (a == a') = true := by simpa using he
              have HE := Lib.hid he; clear he hE
              go_wp2_with fail
              go_quiet (fail)
              clear c0 d0 hb1 hb2 HE
              go_wp2_with fail
              go_roundw
              case rel => exact ⟨1, by omega, by go_num, Fo.more' hF (pw_below_drewN (Below.refl _ _) _), hE2⟩
              case measure => simp [intOf]
            · have ht := order0 HF.out HF'.out  he
              have hl1 : Op.bytesLess S.toList T.toList = decide (a < a') := by rw [HSL.out, HTL.out]; exact ht.1
              have hl2 : (S.toList == T.toList) = false := by rw [HSL.out, HTL.out]; exact ht.2
              have hb1 : (a != a') = true := by simpa using he
              have hb2 : (a == a') = false := by simpa using he
              have HE := Lib.hid he; clear he hE ht
              go_wp2_with fail
              go_quiet (fail)
              go_wp2_with fail
              go_quiet (fail)
              go_wp2
              go_ret
              exact ⟨by simp, pw_below_drewN (pw_below_drewN hF.out.two.one.below _) _⟩
          · obtain ⟨fr, l1⟩ := hF.out.fst
            obtain ⟨fr', l2⟩ := hF.out.snd
            have c0 : wr.cell? ⟨p, 1, none⟩ = some (.int .i64 b) := (cellF l1 1).trans rfl
            have d0 : wr.cell? ⟨q, 1, none⟩ = some (.int .i64 b') := (cellF l2 1).trans rfl
            clear l1 l2
            by_cases he : b = b'
            · have hE2 : Hid ((1 ≤ 2 → a = a') ∧ (2 ≤ 2 → b = b') ∧ (3 ≤ 2 → c = c') ∧ (4 ≤ 2 → d = d')) := Lib.hid ⟨fun h => hE.out.1 (by omega), fun h => he, fun h => absurd h (by omega), fun h => absurd h (by omega)⟩
              have hb1 : (b != b') = false := by simpa using he
              have hb2 : (b == b') = true := by simpa using he
              have HE := Lib.hid he; clear he hE
              go_wp2_with fail
              go_quiet (fail)
              clear c0 d0 hb1 hb2 HE
              go_wp2_with fail
              go_roundw
              case rel => exact ⟨2, by omega, by go_num, Fo.more' hF (pw_below_drewN (Below.refl _ _) _), hE2⟩
              case measure => simp [intOf]
            · have ht := order1 HF.out HF'.out (hE.out.1 (by omega)) he
              have hl1 : Op.bytesLess S.toList T.toList = decide (b < b') := by rw [HSL.out, HTL.out]; exact ht.1
              have hl2 : (S.toList == T.toList) = false := by rw [HSL.out, HTL.out]; exact ht.2
              have hb1 : (b != b') = true := by simpa using he
              have hb2 : (b == b') = false := by simpa using he
              have HE := Lib.hid he; clear he hE ht
              go_wp2_with fail
              go_quiet (fail)
              go_wp2_with fail
              go_quiet (fail)
              go_wp2
              go_ret
              exact ⟨by simp, pw_below_drewN (pw_below_drewN hF.out.two.one.below _) _⟩
          · obtain ⟨fr, l1⟩ := hF.out.fst
            obtain ⟨fr', l2⟩ := hF.out.snd
            have c0 : wr.cell? ⟨p, 2, none⟩ = some (.int .i64 c) := (cellF l1 2).trans rfl
            have d0 : wr.cell? ⟨q, 2, none⟩ = some (.int .i64 c') := (cellF l2 2).trans rfl
            clear l1 l2
            by_cases he : c = c'
            · have hE2 : Hid ((1 ≤ 3 → a = a') ∧ (2 ≤ 3 → b = b') ∧ (3 ≤ 3 → c = c') ∧ (4 ≤ 3 → d = d')) := Lib.hid ⟨fun h => hE.out.1 (by omega), fun h => hE.out.2.1 (by omega), fun h => he, fun h => absurd h (by omega)⟩
              have hb1 : (c != c') = false := by simpa using he
              have hb2 : (c == c') = true := by simpa using he
              have HE := Lib.hid he; clear he hE
              go_wp2_with fail
              go_quiet (fail)
              clear c0 d0 hb1 hb2 HE
              go_wp2_with fail
              go_roundw
              case rel => exact ⟨3, by omega, by go_num, Fo.more' hF (pw_below_drewN (Below.refl _ _) _), hE2⟩
              case measure => simp [intOf]
            · have ht := order2 HF.out HF'.out (hE.out.1 (by omega)) (hE.out.2.1 (by omega)) he
              have hl1 : Op.bytesLess S.toList T.toList = decide (c < c') := by rw [HSL.out, HTL.out]; exact ht.1
              have hl2 : (S.toList == T.toList) = false := by rw [HSL.out, HTL.out]; exact ht.2
              have hb1 : (c != c') = true := by simpa using he
              have hb2 : (c == c') = false := by simpa using he
              have HE := Lib.hid he; clear he hE ht
              go_wp2_with fail
              go_quiet (fail)
              go_wp2_with fail
              go_quiet (fail)
              go_wp2
              go_ret
              exact ⟨by simp, pw_below_drewN (pw_below_drewN hF.out.two.one.below _) _⟩
          · obtain ⟨fr, l1⟩ := hF.out.fst
            obtain ⟨fr', l2⟩ := hF.out.snd
            have c0 : wr.cell? ⟨p, 3, none⟩ = some (.int .i64 d) := (cellF l1 3).trans rfl
            have d0 : wr.cell? ⟨q, 3, none⟩ = some (.int .i64 d') := (cellF l2 3).trans rfl
            clear l1 l2
            by_cases he : d = d'
            · have hE2 : Hid ((1 ≤ 4 → a = a') ∧ (2 ≤ 4 → b = b') ∧ (3 ≤ 4 → c = c') ∧ (4 ≤ 4 → d = d')) := Lib.hid ⟨fun h => hE.out.1 (by omega), fun h => hE.out.2.1 (by omega), fun h => hE.out.2.2.1 (by omega), fun h => he⟩
              have hb1 : (d != d') = false := by simpa using he
              have hb2 : (d == d') = true := by simpa using he
              have HE := Lib.hid he; clear he hE
              go_wp2_with fail
              go_quiet (fail)
              clear c0 d0 hb1 hb2 HE
              go_wp2_with fail
              go_roundw
              case rel => exact ⟨4, by omega, by go_num, Fo.more' hF (pw_below_drewN (Below.refl _ _) _), hE2⟩
              case measure => simp [intOf]
            · have ht := order3 HF.out HF'.out (hE.out.1 (by omega)) (hE.out.2.1 (by omega)) (hE.out.2.2.1 (by omega)) he
              have hl1 : Op.bytesLess S.toList T.toList = decide (d < d') := by rw [HSL.out, HTL.out]; exact ht.1
              have hl2 : (S.toList == T.toList) = false := by rw [HSL.out, HTL.out]; exact ht.2
              have hb1 : (d != d') = true := by simpa using he
              have hb2 : (d == d') = false := by simpa using he
              have HE := Lib.hid he; clear he hE ht
              go_wp2_with fail
              go_quiet (fail)
              go_wp2_with fail
              go_quiet (fail)
              go_wp2
              go_ret
              exact ⟨by simp, pw_below_drewN (pw_below_drewN hF.out.two.one.below _) _⟩
          · obtain ⟨e0, e1, e2, e3⟩ := hE.out
            have ht := order4 HF.out HF'.out (e0 (by omega)) (e1 (by omega)) (e2 (by omega)) (e3 (by omega))
            obtain rfl := e0 (by omega)
            obtain rfl := e1 (by omega)
            obtain rfl := e2 (by omega)
            obtain rfl := e3 (by omega)
            have hl1 : Op.bytesLess S.toList T.toList = Op.bytesLess t.toList t'.toList := by rw [HSL.out, HTL.out]; exact ht.1
            have hl2 : (S.toList == T.toList) = decide (t = t') := by rw [HSL.out, HTL.out]; exact ht.2
            clear e0 e1 e2 e3 ht hE
            have c0 := blk_cell hF.out.two.one.blk 0; have c1 := blk_cell hF.out.two.one.blk 1; have c2 := blk_cell hF.out.two.one.blk 2; have c3 := blk_cell hF.out.two.one.blk 3; have c4 := blk_cell hF.out.two.one.blk 4
            have d0 := blk_cell hF.out.two.two.blk 0; have d1 := blk_cell hF.out.two.two.blk 1; have d2 := blk_cell hF.out.two.two.blk 2; have d3 := blk_cell hF.out.two.two.blk 3; have d4 := blk_cell hF.out.two.two.blk 4
            by_cases he : t = t'
            · subst he
              have hl3 : (S.toList == T.toList) = true := by rw [hl2]; simp
              obtain rfl : S = T := ext_l (by simpa using hl3)
              have hl6 := less_irrefl S.toList
              have hl7 := less_irrefl t.toList
              clear hl1 hl2 hl3
              go_wp2
              go_ret
              exact ⟨by simp, hF.out.two.one.below⟩
            · have hl3 : (S.toList == T.toList) = false := by rw [hl2]; simp [he]
              have hl5 : ¬ t.toList = t'.toList := fun e => he (ext_l e)
              have hl4 : ¬ S.toList = T.toList := by simpa using hl3
              clear hl2
              go_wp2
              go_ret
              exact ⟨by simp, hF.out.two.one.below⟩
  · rw [decide_eq_false hsh]
    rintro e w2 ⟨rfl, rfl⟩
    go_wp2
    go_ret
    exact ⟨rfl, G1.out.one.below⟩
end Go.Proofs.YtdgejkiackeieaaDoor.Gm
end
