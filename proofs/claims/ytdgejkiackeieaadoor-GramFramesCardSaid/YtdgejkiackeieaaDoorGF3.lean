/- Texts of this claim, joined: FrameJ, WireOrd, WireM, FrameK, FLFlags, FLBack, FLOnly, GLFrames. -/
import Derived.Test.YtdgejkiackeieaaDoorGF2
import GoSem.Op.String
import Derived.Deep.QuietTactic
import Derived.BigQuiet
import Derived.WalkLawsBesides
section
set_option linter.unusedVariables false
set_option linter.unusedSimpArgs false
/- Layer 23: Decode. -/
set_option linter.unusedVariables false
set_option linter.unusedSimpArgs false
namespace Go.Proofs.YtdgejkiackeieaaDoor.Fr
open Go.RowKit Go.Proofs.YtdgejkiackeieaaDoor Go.Proofs.YtdgejkiackeieaaDoor.Wr Go.Proofs.YtdgejkiackeieaaDoorW.PrintWords Go.Proofs.YtdgejkiackeieaaDoorW.PrintMore Go.Proofs.YtdgejkiackeieaaDoorW.PrintLast
attribute [local go_sem] Oper.semAt_some
theorem stretches_any (s : ByteArray) (w : World) : Calls Tryd.prog 106 #[.string s] w fun e w' => e = .returned (.func (.func 136) #[] #[.pointer (some ⟨w.heap.size, 0, none⟩)]) ∧ w' = w.alloc (.cells #[.string s] 9) := by
  go_enter Tryd.func106, Tryd.ntmps106
  go_wp2
  go_ret
  exact ⟨rfl, rfl⟩
/-- The payloads of the stretches that have come. -/
def got (pre : List (List UInt8)) : List ByteArray := (pre.filterMap (payB crcF)).map mkB
theorem got_yes (pre : List (List UInt8)) {x p : List UInt8} (h : payB crcF x = some p) : got (pre ++ [x]) = got pre ++ [mkB p] := by simp [got, h]
theorem got_no (pre : List (List UInt8)) {x : List UInt8} (h : payB crcF x = none) : got (pre ++ [x]) = got pre := by simp [got, h]
theorem got_len (pre : List (List UInt8)) : (got pre).length ≤ pre.length := by unfold got; rw [List.length_map]; exact List.length_filterMap_le _ _
/-- What the loop keeps. -/
structure Inv (w0 : World) (B n0 : Nat) (pre : List (List UInt8)) (W : World) : Prop where
  max : MaxW W
  out : ∃ v, Boxed W B 40 v ∧ W.ownsRow n0 9 1 v (got pre).length ((got pre).map Value.string)
  below : Below w0.heap.size w0 W
  size : n0 ≤ W.heap.size
theorem own_block_lt {w : World} {base n : Nat} {e : TypeId} {v : Value} {xs : List Value} (h : w.ownsRow base e 1 v n xs) : ∀ k, v.ownBlock = some k → base ≤ k ∧ ∃ cells, w.heap[k]? = some (.cells cells e (0, 0)) := fun k hk => ⟨own_base h k hk, own_typed h k hk⟩
theorem Inv.below_ {w0 : World} {B n0 : Nat} {pre : List (List UInt8)} {W W' : World} (h : Inv w0 B n0 pre W) (hb : Below W.heap.size W W') : Inv w0 B n0 pre W' := by
  obtain ⟨h1, ⟨v, h2, h3⟩, h4, h5⟩ := h
  refine ⟨h1.below hb, ⟨v, (hb.block B h2.lt).trans h2, own_move h3 (fun k hk => ?_)⟩, h4.trans (hb.mono h4.size), Nat.le_trans h5 hb.size⟩
  obtain ⟨_, cells, hc⟩ := own_block_lt h3 k hk
  exact hb.block k (blk_lt hc)
theorem Inv.set_ {w0 : World} {B n0 b : Nat} {pre : List (List UInt8)} {W : World} (h : Inv w0 B n0 pre W) (hb0 : w0.heap.size ≤ b) (h4b : 5 ≤ b) (hbn : b < n0) (hbB : B ≠ b) (v : Value) : Inv w0 B n0 pre (W.setCell ⟨b, 0, none⟩ v) := by
  obtain ⟨h1, ⟨u, h2, h3⟩, h4, h5⟩ := h
  refine ⟨⟨?_, ?_⟩, ⟨u, (Below.heap_setCell W ⟨b, 0, none⟩ v B hbB).trans h2, own_move h3 (fun k hk => ?_)⟩, below_set h4 hb0, ?_⟩
  · obtain ⟨m, hm⟩ := h1.max
    refine ⟨m, ?_⟩
    rw [← hm]
    unfold World.cell?
    rw [Below.heap_setCell W ⟨b, 0, none⟩ v 4 (by show 4 ≠ b; omega)]
  · have := h1.five; simpa using this
  · obtain ⟨hk1, _⟩ := own_block_lt h3 k hk
    exact Below.heap_setCell W ⟨b, 0, none⟩ v k (by show k ≠ b; omega)
  · simpa using h5
theorem Inv.put_ {w0 : World} {B n0 l : Nat} {o o' : Obj} {pre : List (List UInt8)} {W : World} (h : Inv w0 B n0 pre W) (hl0 : w0.heap.size ≤ l) (h4l : 5 ≤ l) (hl : W.heap[l]? = some o) (ho : o.isCells = false) : Inv w0 B n0 pre (W.putObj l o') := by
  obtain ⟨h1, ⟨u, h2, h3⟩, h4, h5⟩ := h
  have hne : ∀ {k : Nat} {cs : Array Value} {t : TypeId} {fr : Nat × Nat}, W.heap[k]? = some (.cells cs t fr) → k ≠ l := by
    rintro k cs t fr hk rfl
    rw [hl] at hk
    cases hk
    cases ho
  refine ⟨⟨?_, ?_⟩, ⟨u, (World.putObj_heap_other (hne h2)).trans h2, own_move h3 (fun k hk => ?_)⟩, h4.grown (grownBy_putObj' W l o') h4.size (fun k e => by cases e; exact hl0), ?_⟩
  · obtain ⟨m, hm⟩ := h1.max
    refine ⟨m, ?_⟩
    rw [← hm]
    unfold World.cell?
    rw [show (W.putObj l o').heap[4]? = W.heap[4]? from World.putObj_heap_other (by omega)]
  · have := h1.five; simpa using this
  · obtain ⟨_, cells, hc⟩ := own_block_lt h3 k hk
    exact World.putObj_heap_other (hne hc)
  · simpa using h5
/-- What an append to the row, stored back into the variable, leaves. -/
theorem appended_ {w0 w1 w2 : World} {B n0 : Nat} {t e : TypeId} {v v' : Value} {k m : Nat} {xs ys : List Value} {tmp : Obj} (hv : Boxed w1 B t v) (hrow : w1.ownsRow n0 e 1 v k xs) (hn0 : n0 ≤ w1.heap.size) (hB0 : w0.heap.size ≤ B) (hB : B < n0) (hb : Below w0.heap.size w0 w1)
    (hown' : w2.ownsRow n0 e 1 v' m ys) (hgrow : (w1.alloc tmp).grownBy w2 v.ownBlock) :
    Boxed w2 B t v ∧ Boxed (w2.setCell ⟨B, 0, none⟩ v') B t v' ∧ (w2.setCell ⟨B, 0, none⟩ v').ownsRow n0 e 1 v' m ys ∧ KeepsOthers w1 (w2.setCell ⟨B, 0, none⟩ v') ∧ (∀ b, b < n0 → b ≠ B → (w2.setCell ⟨B, 0, none⟩ v').heap[b]? = w1.heap[b]?) ∧ Below w0.heap.size w0 (w2.setCell ⟨B, 0, none⟩ v') ∧ n0 ≤ (w2.setCell ⟨B, 0, none⟩ v').heap.size := by
  have hsz : w1.heap.size + 1 ≤ w2.heap.size := by have := hgrow.size; simpa using this
  have hkeep : ∀ i, i < w1.heap.size → some i ≠ v.ownBlock → w2.heap[i]? = w1.heap[i]? := fun i hi hne =>
    (hgrow.block i (by simp; omega) hne).trans (((Below.refl _ w1).alloc (Nat.le_refl _) tmp).block i hi)
  have hlow : ∀ i, i < n0 → some i ≠ v.ownBlock := fun i hi e => by have := own_base hrow i e.symm; omega
  have h1 : Boxed w2 B t v := (hkeep B (by omega) (hlow B hB)).trans hv
  refine ⟨h1, blk_set h1 0 v', own_move hown' (fun k hk => ?_), ⟨by simp; omega, fun k o hk ho => ?_⟩, fun b hbn hbB => ?_, ?_, by simp; omega⟩
  · have := own_base hown' k hk
    exact Below.heap_setCell w2 ⟨B, 0, none⟩ v' k (by show k ≠ B; omega)
  · have hkB : k ≠ B := by
      rintro rfl
      rw [show w1.heap[k]? = _ from hv] at hk
      cases hk; cases ho
    rw [Below.heap_setCell w2 ⟨B, 0, none⟩ v' k hkB, hkeep k (Array.getElem?_eq_some_iff.1 hk).1 ?_]
    · exact hk
    · intro e
      obtain ⟨cells, hc⟩ := own_typed hrow k e.symm
      rw [hc] at hk
      cases hk; cases ho
  · rw [Below.heap_setCell w2 ⟨B, 0, none⟩ v' b hbB]
    exact hkeep b (by omega) (hlow b hbn)
  · exact below_set ((hb.alloc hb.size tmp).grown hgrow (by have := hb.size; simp; omega) (fun k e => by have := own_base hrow k e; omega)) hB0
set_option maxRecDepth 100000 in
set_option maxHeartbeats 4000000 in
theorem Decode_in (s : ByteArray) (w : World) (hM : MaxW w) (hs : s.size ≤ 4000000) :
    CallsIn Fence.wide 5 Tryd.prog 45 #[.string s] w fun e w' => ∃ v, e = .returned (.tuple #[v, .string (mkB (restB s.data.toList))]) ∧ w'.ownsRow w.heap.size 9 1 v ((pays crcF s.data.toList).map mkB).length (((pays crcF s.data.toList).map mkB).map Value.string) ∧ Below w.heap.size w w' := by
  have HM := Lib.hid hM
  have h5 : 5 ≤ w.heap.size := hM.five
  obtain ⟨i0, hi, hz0, hz1, hz2⟩ := info_parts info9
  clear hM
  obtain ⟨RS, hRS⟩ : ∃ R, mkB (restB s.data.toList) = R := ⟨_, rfl⟩
  rw [hRS]
  have HRS := Lib.hid hRS
  clear hRS
  refine callsIn_of_wp_marks Tryd.func45 rfl trivial ?_ rfl
  simp only [Tryd.ntmps45, List.size_toArray, List.length_cons, List.length_nil, Nat.reduceAdd, Nat.reduceSub, Array.replicate_succ, Array.replicate_zero, List.push_toArray, List.append_toArray, List.nil_append, List.cons_append]
  gi_wp2_with fail
  refine ⟨trivial, (callsIn_wide.2 (stretches_any s _)).mono ?_⟩
  rintro e w1 ⟨rfl, rfl⟩
  gi_wp2_with fail
  obtain ⟨W0, hW0⟩ : ∃ W0, (w.alloc (Obj.cells #[Value.slice none 0 0] 40)).alloc (Obj.cells #[Value.string s] 9) = W0 := ⟨_, rfl⟩
  have hsz : W0.heap.size = w.heap.size + 2 := by rw [← hW0]; simp
  have hB0 : Below w.heap.size w W0 := by rw [← hW0]; exact ((Below.refl _ w).alloc (Nat.le_refl _) _).alloc (by simp) _
  have hO0 : Boxed W0 w.heap.size 40 (.slice none 0 0) := by
    rw [← hW0]; exact (((Below.refl _ (w.alloc _)).alloc (Nat.le_refl _) _).block w.heap.size (by simp)).trans (heap_alloc_new w _)
  have hS0 : St W0 (w.heap.size + 1) s := by rw [← hW0]; unfold St; simpa using heap_alloc_new (w.alloc _) _
  rw [hW0]
  have hI0 : Inv w w.heap.size (w.heap.size + 2) [] W0 := ⟨HM.out.below hB0, ⟨_, hO0, World.ownsRow_nil _ _ _ _⟩, hB0, by omega⟩
  have HSZ := Lib.hid hsz
  clear hW0 hO0
  refine range_over (n := 5) (by omega) (gf := 136) (lb := #[.pointer (some ⟨w.heap.size + 1, 0, none⟩)]) rfl (enters_of Tryd.func136 (by kernel_rfl) rfl) (fun x => #[.string (mkB x)]) (fun _ => rfl) (w.heap.size + 1) (by omega) s.size (segs s.data.toList)
    (Inv w w.heap.size (w.heap.size + 2)) (fun _ _ _ h hb => h.below_ hb) (fun _ _ v h => h.set_ (by omega) (by omega) (by omega) (by omega) v) (fun _ _ l o o' h hl ho hc => h.put_ (by omega) (by omega) ho hc)
    (fun l J W hJI hJb hJs hY hWb h0 => stretches_in 4 l (w.heap.size + 1) s J W (by omega) hs (fun pre W h => (hJI pre W h).max) hJb hJs hY (hWb.trans hS0) h0) hI0
    (fun x => { tmps := #[Value.string s, undef, Value.slice none 0 0, Value.string { data := #[] }, Value.pointer (some { block := w.heap.size, off := 0 }), Value.string (mkB x), undef, undef, undef, Value.string s, Value.func (Fn.func 136) #[] #[Value.pointer (some { block := w.heap.size + 1, off := 0 })], Value.string (mkB x), undef, undef, undef, undef, undef, undef, undef, undef, undef, undef, undef, undef, undef, undef, undef, undef, undef, undef, undef, undef, undef, undef, undef, undef, undef, undef, undef], defers := [] }) ?assign ?body ?done
  case assign =>
    intro l x W K hK
    gi_wp2
    exact hK
  case body =>
    intro l pre x W hI hlt
    obtain ⟨hMX, ⟨v, hv, hrow⟩, hB, hS⟩ := hI
    have HMX := Lib.hid hMX; have HB := Lib.hid hB; have HS := Lib.hid hS
    clear hMX hB hS hS0 hI0 hB0 hsz
    gi_wp2_with fail
    refine ⟨trivial, (CallsIn.inRound l (callsIn_wide.2 (payload_any (mkB x) W HMX.out))).mono ?_⟩
    rw [mkB_list]
    cases hp : payB crcF x with
    | none =>
      unfold payV
      simp only
      rintro e w1 ⟨rfl, k1⟩
      have hI1 : Inv w w.heap.size (w.heap.size + 2) (pre ++ [x]) w1 := by
        have := Inv.below_ (pre := pre) ⟨HMX.out, ⟨v, hv, hrow⟩, HB.out, HS.out⟩ k1
        obtain ⟨a1, ⟨u, a2, a3⟩, a4, a5⟩ := this
        exact ⟨a1, ⟨u, a2, by rw [got_no pre hp]; exact a3⟩, a4, a5⟩
      have hko : KeepsOthers W w1 := ⟨k1.size, fun k o hk _ => (k1.block k (Array.getElem?_eq_some_iff.1 hk).1).trans hk⟩
      have hbb : w1.heap[w.heap.size + 1]? = W.heap[w.heap.size + 1]? := k1.block _ (by have := HS.out; omega)
      clear k1 hv hrow
      gi_wp2
    | some p =>
      unfold payV
      simp only
      rintro e w1 ⟨rfl, k1⟩
      have hko : KeepsOthers W w1 := ⟨k1.size, fun k o hk _ => (k1.block k (Array.getElem?_eq_some_iff.1 hk).1).trans hk⟩
      have hbb : w1.heap[w.heap.size + 1]? = W.heap[w.heap.size + 1]? := k1.block _ (by have := HS.out; omega)
      obtain ⟨a1, ⟨u, hu, hro⟩, a4, a5⟩ := Inv.below_ (pre := pre) ⟨HMX.out, ⟨v, hv, hrow⟩, HB.out, HS.out⟩ k1
      have hlg : (got pre).length ≤ 4000000 := by have := got_len pre; omega
      have hc := hu.cell
      have A4 := Lib.hid a4; have A5 := Lib.hid a5; have HKO := Lib.hid hko; have HBB := Lib.hid hbb; have HP := Lib.hid hp
      clear k1 hv hrow a1 a4 hko hbb hp
      gi_wp2_with (gi_at_builtin; refine wpListIn_append_own _ rfl _ _ 40 rfl (w.heap.size + 2) 9 i0 (.string ⟨#[]⟩) 1 16 Tryd.underlying40 hi hz0 hz1 hz2 rfl (by decide) _ _ _ rfl (hro.alloc _) ⟨w1.heap.size, 0, none⟩ 1 1 [.string (mkB p)] rfl rfl (cell_one_new _ _ _) (by simp [Value.oneCell']) (by unfold maxLen; omega) (by omega) (by have := A5.out; simp; omega) ?_; intro v' w2 hown' hgrow _; obtain ⟨g', cap', rfl⟩ := ownsRow_succ hown'; obtain ⟨q1, q2, q3, q4, q5, q6, q7⟩ := appended_ hu hro A5.out (Nat.le_refl _) (by omega) A4.out hown' hgrow; have hc1 := q1.cell; have hf1 := q1.frozen; clear hown' hgrow)
      exact ⟨HKO.out.trans q4, HBB.out, ⟨HM.out.below q6, ⟨_, q2, by rw [got_yes pre HP.out]; simpa using q3⟩, q6, q7⟩⟩
  case done =>
    intro D W hD hI hK
    obtain ⟨hMX, ⟨v, hv, hrow⟩, hB, hS⟩ := hI
    have HB := Lib.hid hB; have HV := Lib.hid hv; have HROW := Lib.hid hrow; have HK := Lib.hid hK; have HD := Lib.hid hD
    have hfin : ∀ W2, W2.heap[D]? = some (.deferred (some [])) → Below W.heap.size W W2 → Hid ((W2.putObj D (.deferred none)).ownsRow w.heap.size 9 1 v ((pays crcF s.data.toList).map mkB).length (((pays crcF s.data.toList).map mkB).map Value.string) ∧ Below w.heap.size w (W2.putObj D (.deferred none))) := by
      intro W2 hK2 hb2
      have hr2 : W2.ownsRow (w.heap.size + 2) 9 1 v (got (segs s.data.toList)).length ((got (segs s.data.toList)).map Value.string) := own_move hrow (fun k hk => hb2.block k (by obtain ⟨_, cells, hc⟩ := own_block_lt hrow k hk; exact blk_lt hc))
      exact Lib.hid ⟨own_weaken (ownsRow_putObj hr2 _ hK2 rfl) (by omega), (hB.trans (hb2.mono hB.size)).trans (belowK_b (Nat.le_refl _) W2 D _ _ (by omega) hK2 rfl rfl)⟩
    have HF := Lib.hid hfin
    clear hMX hv hrow hB hK hD hfin hS0 hI0 hB0
    rcases last_or s.data.toList with hfr | ⟨p, r, hr, hpr⟩
    · have hli := lastIdx_free s hfr
      have hrest : restB s.data.toList = [] := (pays_free crcF hfr).2
      have HLI := Lib.hid hli
      have HR0 : Hid (RS = ⟨#[]⟩) := Lib.hid (by rw [← HRS.out, hrest])
      clear hfr hli hrest
      gi_wp2_with fail
      refine ⟨trivial, (callsIn_wide.2 (Tryd.strings_LastIndex_one s ⟨#[126]⟩ rfl (by omega) W)).mono ?_⟩
      rw [show Lib.lastIndexByte s ((((⟨#[126]⟩ : ByteArray)[0]'(by decide)).toNat : Nat) : Int) = -1 from HLI.out]
      rintro e w1 ⟨rfl, rfl⟩
      have hc := HV.out.cell
      gi_wp2
      refine ⟨by simp, .inl ⟨_, _, rfl, run_takeDeferred HK.out, ?_⟩⟩
      exact ⟨_, results_tmp2 rfl _ _ _, v, by rw [HR0.out]; rfl, (HF.out _ HK.out (Below.refl _ _)).out.1, (HF.out _ HK.out (Below.refl _ _)).out.2⟩
    · have hli := lastIdx_app s hr hpr
      have hrest := rest_last p hr
      rw [← hpr] at hrest
      have hsz2 : s.size = p.length + (r.length + 1) := by
        have := congrArg List.length hpr
        rw [len_size] at this
        simpa using this
      have HLI := Lib.hid hli
      have hex : s.extract p.length s.size = mkB (126 :: r) := by rw [extract_drop, hpr, List.drop_left]
      have hc := HV.out.cell
      by_cases h48 : r.length ≤ 2048
      · have HR0 : Hid (RS = s.extract p.length s.size) := Lib.hid (by rw [← HRS.out, hrest, if_pos h48, hex])
        clear hr hpr hli hrest hex
        have i1 : ¬ (p.length : Int) < 0 := by omega
        have i2 : ¬ (2048 : Int) < (s.size : Int) - (p.length : Int) - 1 := by omega
        have i3 : (p.length : Int) ≤ (s.size : Int) := by omega
        have HSZ2 := Lib.hid hsz2; clear hsz2
        gi_wp2_with fail
        refine ⟨trivial, (callsIn_wide.2 (Tryd.strings_LastIndex_one s ⟨#[126]⟩ rfl (by omega) W)).mono ?_⟩
        rw [show Lib.lastIndexByte s ((((⟨#[126]⟩ : ByteArray)[0]'(by decide)).toNat : Nat) : Int) = (p.length : Int) from HLI.out]
        rintro e w1 ⟨rfl, rfl⟩
        have i0 : (0 : Int) ≤ (p.length : Int) := by omega
        have hdr : w1.drew.cell? ⟨w.heap.size, 0, none⟩ = some v := hc
        gi_wp2
        gi_region
        all_goals
          gi_wp2
          refine ⟨by simp, .inl ⟨_, _, rfl, run_takeDeferred (show w1.drew.heap[D]? = _ from HK.out), ?_⟩⟩
          exact ⟨_, results_tmp2 rfl _ _ _, v, by rw [HR0.out]; rfl, (HF.out w1.drew HK.out (below_drew (Below.refl _ _))).out.1, (HF.out w1.drew HK.out (below_drew (Below.refl _ _))).out.2⟩
      · have HR0 : Hid (RS = ⟨#[]⟩) := Lib.hid (by rw [← HRS.out, hrest, if_neg h48])
        clear hr hpr hli hrest hex
        have i1 : ¬ (p.length : Int) < 0 := by omega
        have i2 : (2048 : Int) < (s.size : Int) - (p.length : Int) - 1 := by omega
        have HSZ2 := Lib.hid hsz2; clear hsz2
        gi_wp2_with fail
        refine ⟨trivial, (callsIn_wide.2 (Tryd.strings_LastIndex_one s ⟨#[126]⟩ rfl (by omega) W)).mono ?_⟩
        rw [show Lib.lastIndexByte s ((((⟨#[126]⟩ : ByteArray)[0]'(by decide)).toNat : Nat) : Int) = (p.length : Int) from HLI.out]
        rintro e w1 ⟨rfl, rfl⟩
        gi_wp2
        refine ⟨by simp, .inl ⟨_, _, rfl, run_takeDeferred HK.out, ?_⟩⟩
        exact ⟨_, results_tmp2 rfl _ _ _, v, by rw [HR0.out]; rfl, (HF.out _ HK.out (Below.refl _ _)).out.1, (HF.out _ HK.out (Below.refl _ _)).out.2⟩
/-- The payloads of a stream. -/
def decL (s : ByteArray) : List ByteArray := (pays crcF s.data.toList).map mkB
theorem Decode_any (s : ByteArray) (w : World) (hM : MaxW w) (hs : s.size ≤ 4000000) :
    Calls Tryd.prog 45 #[.string s] w fun e w' => ∃ v, e = .returned (.tuple #[v, .string (mkB (restB s.data.toList))]) ∧ Kd.R Kd.string 9 w' w.heap.size (fun _ => True) v (decL s) ∧ Below w.heap.size w w' :=
  (callsIn_wide.1 (Decode_in s w hM hs)).mono fun e w' ⟨v, h1, h2, h3⟩ => ⟨v, h1, Kd.R_of_own (h1 := fun _ => rfl) h2 (fun _ _ => trivial), h3⟩
end Go.Proofs.YtdgejkiackeieaaDoor.Fr
end
section
set_option linter.unusedVariables false
set_option linter.unusedSimpArgs false
/- The order of the encodings of layer 2: two encodings of one kind differ at a byte, and there as their values do. No program in sight. -/
set_option linter.unusedVariables false
set_option linter.unusedSimpArgs false
namespace Go.Proofs.YtdgejkiackeieaaDoor.Wr
/-- Two strings differ at a byte: -1 if the first one's is less, 1 if it is greater. -/
def Diff (c : Int) (s t : List UInt8) : Prop := ∃ p a b s' t', s = p ++ a :: s' ∧ t = p ++ b :: t' ∧ ((a < b ∧ c = -1) ∨ (b < a ∧ c = 1))
theorem Diff.pre {c : Int} {s t : List UInt8} (h : Diff c s t) (q : List UInt8) : Diff c (q ++ s) (q ++ t) := by
  obtain ⟨p, a, b, s', t', rfl, rfl, hc⟩ := h
  exact ⟨q ++ p, a, b, s', t', by simp, by simp, hc⟩
theorem Diff.cons {c : Int} {s t : List UInt8} (h : Diff c s t) (x : UInt8) : Diff c (x :: s) (x :: t) := h.pre [x]
theorem Diff.here {a b : UInt8} (h : a < b) (s t : List UInt8) : Diff (-1) (a :: s) (b :: t) := ⟨[], a, b, s, t, rfl, rfl, .inl ⟨h, rfl⟩⟩
theorem u8_lt_irrefl (a : UInt8) : ¬ a < a := by rw [UInt8.lt_iff_toNat_lt]; omega
theorem u8_lt_asymm {a b : UInt8} (h : a < b) : ¬ b < a := by rw [UInt8.lt_iff_toNat_lt] at *; omega
theorem Diff.prefix {c : Int} {s t : List UInt8} (h : Diff c s t) : ¬ s <+: t := by
  obtain ⟨p, a, b, s', t', rfl, rfl, hc⟩ := h
  rw [List.prefix_append_right_inj, List.cons_prefix_cons]
  rintro ⟨rfl, _⟩
  rcases hc with ⟨h, _⟩ | ⟨h, _⟩ <;> exact u8_lt_irrefl _ h
theorem less_pre (p s t : List UInt8) : Op.bytesLess (p ++ s) (p ++ t) = Op.bytesLess s t := by
  induction p with
  | nil => rfl
  | cons a p ih => simp only [List.cons_append, Op.bytesLess, ih]; simp [u8_lt_irrefl]
theorem Diff.less {c : Int} {s t : List UInt8} (h : Diff c s t) : Op.bytesLess s t = decide (c = -1) := by
  obtain ⟨p, a, b, s', t', rfl, rfl, hc⟩ := h
  rw [less_pre]
  rcases hc with ⟨h, rfl⟩ | ⟨h, rfl⟩
  · simp [Op.bytesLess, h]
  · have h1 := u8_lt_asymm h
    have h2 : a ≠ b := fun e => u8_lt_irrefl b (e ▸ h)
    simp [Op.bytesLess, h1, h2]
theorem Diff.val {c : Int} {s t : List UInt8} (h : Diff c s t) : c = -1 ∨ c = 1 := by
  obtain ⟨_, _, _, _, _, _, _, hc⟩ := h
  rcases hc with ⟨_, h⟩ | ⟨_, h⟩
  · exact .inl h
  · exact .inr h
/-! ### integers -/
/-! ### strings -/
/-! ### lists -/
end Go.Proofs.YtdgejkiackeieaaDoor.Wr
end
section
set_option linter.unusedVariables false
set_option linter.unusedSimpArgs false
/- The laws' own small functions of layer 2: light, write, all, text, number, compare. -/
set_option linter.unusedVariables false
set_option linter.unusedSimpArgs false
namespace Go.Proofs.YtdgejkiackeieaaDoor.Wr
open Go.RowKit Go.Proofs.YtdgejkiackeieaaDoor Go.Proofs.YtdgejkiackeieaaDoor.PWr Go.Proofs.YtdgejkiackeieaaDoorW.PrintWords Go.Proofs.YtdgejkiackeieaaDoorW.PrintMore Go.Proofs.YtdgejkiackeieaaDoorW.PrintLast
/-- The five cells of an element, as the walk spells their places. -/
structure Cells5 (w : World) (a : Addr) (v : V5) : Prop where
  c0 : w.cell? a = some (.int .i64 v.k)
  c1 : w.cell? ⟨a.block, a.off + 1, none⟩ = some (.int .i64 v.n)
  c2 : w.cell? ⟨a.block, a.off + 2, none⟩ = some (.string v.s)
  c3 : w.cell? ⟨a.block, a.off + 3, none⟩ = some (.slice v.la v.l.length v.lc)
  c4 : w.cell? ⟨a.block, a.off + 4, none⟩ = some (.slice v.ta v.t.length v.tc)
end Go.Proofs.YtdgejkiackeieaaDoor.Wr
end
section
set_option linter.unusedVariables false
set_option linter.unusedSimpArgs false
/- The laws' own functions of layer 23: Same, small, short. -/
set_option linter.unusedVariables false
set_option linter.unusedSimpArgs false
namespace Go.Proofs.YtdgejkiackeieaaDoor.Fr
open Go.RowKit Go.Proofs.YtdgejkiackeieaaDoor Go.Proofs.YtdgejkiackeieaaDoor.Wr Go.Proofs.YtdgejkiackeieaaDoorW.PrintWords Go.Proofs.YtdgejkiackeieaaDoorW.PrintMore Go.Proofs.YtdgejkiackeieaaDoorW.PrintLast
/-! ### the fixed example -/
end Go.Proofs.YtdgejkiackeieaaDoor.Fr
end
section
set_option linter.unusedVariables false
set_option linter.unusedSimpArgs false
/- The walk of FrameFlags. -/
set_option linter.unusedVariables false
set_option linter.unusedSimpArgs false
namespace Go.Proofs.YtdgejkiackeieaaDoor.Fr
open Go.RowKit Go.Proofs.YtdgejkiackeieaaDoor Go.Proofs.YtdgejkiackeieaaDoor.Wr Go.Proofs.YtdgejkiackeieaaDoorW.PrintWords Go.Proofs.YtdgejkiackeieaaDoorW.PrintMore Go.Proofs.YtdgejkiackeieaaDoorW.PrintLast
end Go.Proofs.YtdgejkiackeieaaDoor.Fr
end
section
set_option linter.unusedVariables false
set_option linter.unusedSimpArgs false
/- The walk of FrameBack. -/
set_option linter.unusedVariables false
set_option linter.unusedSimpArgs false
namespace Go.Proofs.YtdgejkiackeieaaDoor.Fr
open Go.RowKit Go.Proofs.YtdgejkiackeieaaDoor Go.Proofs.YtdgejkiackeieaaDoor.Wr Go.Proofs.YtdgejkiackeieaaDoorW.PrintWords Go.Proofs.YtdgejkiackeieaaDoorW.PrintMore Go.Proofs.YtdgejkiackeieaaDoorW.PrintLast
theorem own_below {w w' : World} {base n : Nat} {e : TypeId} {v : Value} {xs : List Value} (h : w.ownsRow base e 1 v n xs) (hb : Below w.heap.size w w') : w'.ownsRow base e 1 v n xs :=
  own_move h (fun k hk => by obtain ⟨_, cells, hc⟩ := own_block_lt h k hk; exact hb.block k (blk_lt hc))
/-- The stream so far and what it is to give. -/
structure Bk (w0 w : World) (base : Nat) (S : ByteArray) (v : Value) (wl : List ByteArray) : Prop where
  own : w.ownsRow base 9 1 v wl.length (wl.map Value.string)
  back : Back crcF S.data.toList (lists wl)
  below : Below w0.heap.size w0 w
  base0 : w0.heap.size ≤ base
  size : base ≤ w.heap.size
theorem Bk.more {w0 w w' : World} {base : Nat} {S : ByteArray} {v : Value} {wl : List ByteArray} (h : Bk w0 w base S v wl) (hb : Below w.heap.size w w') : Bk w0 w' base S v wl :=
  ⟨own_below h.own hb, h.back, h.below.trans (hb.mono h.below.size), h.base0, Nat.le_trans h.size hb.size⟩
end Go.Proofs.YtdgejkiackeieaaDoor.Fr
end
section
set_option linter.unusedVariables false
set_option linter.unusedSimpArgs false
/- The walk of FrameOnly. -/
set_option linter.unusedVariables false
set_option linter.unusedSimpArgs false
namespace Go.Proofs.YtdgejkiackeieaaDoor.Fr
open Go.RowKit Go.Proofs.YtdgejkiackeieaaDoor Go.Proofs.YtdgejkiackeieaaDoor.Wr Go.Proofs.YtdgejkiackeieaaDoorW.PrintWords Go.Proofs.YtdgejkiackeieaaDoorW.PrintMore Go.Proofs.YtdgejkiackeieaaDoorW.PrintLast
end Go.Proofs.YtdgejkiackeieaaDoor.Fr
end
section
set_option linter.unusedVariables false
set_option linter.unusedSimpArgs false
/- The walk of GramFrames. -/
set_option linter.unusedVariables false
set_option linter.unusedSimpArgs false
namespace Go.Proofs.YtdgejkiackeieaaDoor.Gm
open Go.RowKit Go.Proofs.YtdgejkiackeieaaDoor Go.Proofs.YtdgejkiackeieaaDoor.Wr Go.Proofs.YtdgejkiackeieaaDoor.Fr Go.Proofs.YtdgejkiackeieaaDoorW.PrintWords Go.Proofs.YtdgejkiackeieaaDoorW.PrintMore Go.Proofs.YtdgejkiackeieaaDoorW.PrintLast
theorem info34 : (Tryd.prog.info? 34).map (fun i => (i.zero, i.size, i.bytes)) = some (some (.agg #[.int .i64 0, .int .i64 0, .int .i64 0, .int .i64 0, .string ⟨#[]⟩]), 5, 48) := by kernel_rfl
structure CellsG (w : World) (a : Addr) (v : G5) : Prop where
  c0 : w.cell? a = some (.int .i64 v.a)
  c1 : w.cell? ⟨a.block, a.off + 1, none⟩ = some (.int .i64 v.b)
  c2 : w.cell? ⟨a.block, a.off + 2, none⟩ = some (.int .i64 v.c)
  c3 : w.cell? ⟨a.block, a.off + 3, none⟩ = some (.int .i64 v.d)
  c4 : w.cell? ⟨a.block, a.off + 4, none⟩ = some (.string v.t)
theorem gram_at {w : World} {A : Option Addr} {l : List G5} (h : Reads5 RG w A l) (k : Nat) (hk : k < l.length) : ∃ ad v, A = some ad ∧ l[k]? = some v ∧ v.ok ∧ CellsG w (ad.add (k * 5)) v := by
  obtain ⟨ad, cs, rfl, ⟨rfl, hok⟩, hcl, hcell⟩ := h k hk
  have hj : ∀ j, j < 5 → j ≠ 0 → w.cell? ⟨(ad.add (k * 5)).block, (ad.add (k * 5)).off + j, none⟩ = l[k].arr.toList[j]? := by
    intro j h1 h2
    rw [← hcell j h1, ← Go.Deep.add_add]
    generalize ad.add (k * 5) = a
    unfold Addr.add
    rw [if_neg h2]
  exact ⟨ad, l[k], rfl, List.getElem?_eq_getElem hk, hok, hcell 0 (by omega), hj 1 (by omega) (by omega), hj 2 (by omega) (by omega), hj 3 (by omega) (by omega), hj 4 (by omega) (by omega)⟩
theorem laterG {w w' : World} {A : Option Addr} {l : List G5} (h : Reads5 RG w A l) (hb : Below w.heap.size w w') : Reads5 RG w' A l := Reads5.below (R := RG) (w' := w') h (fun _ _ hx => hx) hb
/-- The cells of telegrams in a row. -/
def rowG (l : List G5) : List Value := (l.map fun g => g.arr.toList).flatten
theorem rowG_snoc (l : List G5) (g : G5) : rowG (l ++ [g]) = rowG l ++ g.arr.toList := by simp [rowG]
theorem rowG_get (l : List G5) : ∀ (k j : Nat) (h : k < l.length), j < 5 → (rowG l)[k * 5 + j]? = l[k].arr.toList[j]? := by
  induction l with
  | nil => intro k j h; exact absurd h (Nat.not_lt_zero _)
  | cons g l ih =>
    intro k j h hj
    have e : rowG (g :: l) = g.arr.toList ++ rowG l := rfl
    have hl : g.arr.toList.length = 5 := rfl
    rw [e]
    cases k with
    | zero => rw [Nat.zero_mul, Nat.zero_add, List.getElem?_append_left (by omega)]; rfl
    | succ k =>
      rw [List.getElem?_append_right (by omega), hl, show (k + 1) * 5 + j - 5 = k * 5 + j by omega, ih k j (by simpa using h) hj]
      rfl
theorem restB_length (l : List UInt8) : (restB l).length ≤ 2049 := by
  unfold restB
  cases (parts l).2 with
  | nil => simp [restOf]
  | cons x xs =>
    show (if (lastP x xs).length ≤ 2048 then 126 :: lastP x xs else []).length ≤ 2049
    split
    · rw [List.length_cons]; omega
    · exact Nat.zero_le _
/-- A sealed, well-formed telegram of a secret. -/
def Sealed (s : ByteArray) (g : G5) : Prop := g.t = tagB s g.a g.b g.c g.d ∧ formedB g.a g.b g.c g.d g.t = true
def bytesG (g : G5) : List UInt8 := bytesL g.a g.b g.c g.d g.t
/-- The stream so far and the telegrams that are to come out of it. -/
structure Fm (w0 w : World) (base : Nat) (s S : ByteArray) (v : Value) (wl : List G5) : Prop where
  own : w.ownsRow base 34 5 v wl.length (rowG wl)
  seal_ : ∀ g ∈ wl, Sealed s g
  back : Back crcF S.data.toList (wl.map bytesG)
  below : Below w0.heap.size w0 w
  base0 : w0.heap.size ≤ base
  size : base ≤ w.heap.size
theorem own_below5 {w w' : World} {base n : Nat} {e size : Nat} {v : Value} {xs : List Value} (h : w.ownsRow base e size v n xs) (hb : Below w.heap.size w w') : w'.ownsRow base e size v n xs :=
  own_move h (fun k hk => by obtain ⟨cells, hc⟩ := own_typed h k hk; exact hb.block k (blk_lt hc))
theorem Fm.more {w0 w w' : World} {base : Nat} {s S : ByteArray} {v : Value} {wl : List G5} (h : Fm w0 w base s S v wl) (hb : Below w.heap.size w w') : Fm w0 w' base s S v wl :=
  ⟨own_below5 h.own hb, h.seal_, h.back, h.below.trans (hb.mono h.below.size), h.base0, Nat.le_trans h.size hb.size⟩
theorem cells_five (w : World) (g : G5) : ∀ j x, g.arr.toList[j]? = some x → (w.alloc (.cells g.arr 34)).cell? ((⟨w.heap.size, 0, none⟩ : Addr).add j) = some x := by
  intro j x hj
  have hb := heap_alloc_new w (Obj.cells g.arr 34)
  rw [add_plain, blk_cell hb j]
  simpa using hj
/-- An own row of telegrams can be read. -/
theorem own_gram {w : World} {base : Nat} {v : Value} {wl : List G5} (h : w.ownsRow base 34 5 v wl.length (rowG wl)) (hok : ∀ g ∈ wl, g.ok) : ∃ A c, v = .slice A wl.length c ∧ wl.length ≤ c ∧ c ≤ 9223372036854775807 ∧ Reads5 RG w A wl := by
  obtain ⟨h1, h2⟩ := h
  rcases h2 with ⟨rfl, h3⟩ | ⟨g, cap, cur, rfl, hg, hh, hc1, hc2, hcz, hcur⟩
  · rw [h3]
    refine ⟨none, 0, rfl, Nat.le_refl _, by decide, fun i hi => ?_⟩
    rw [h3] at hi; exact absurd hi (Nat.not_lt_zero _)
  · refine ⟨_, cap, rfl, hc1, by unfold maxLen at hc2; omega, fun i hi => ?_⟩
    refine ⟨_, wl[i].arr.toList, rfl, ⟨rfl, hok _ (List.getElem_mem hi)⟩, rfl, fun j hj => ?_⟩
    have e := rowG_get wl i j hi hj
    rw [← e, ← hcur, List.getElem?_take_of_lt (by omega), add_plain, blk_cell hh]
    simp
/-- The last loop's world. -/
structure Fo (w0 w : World) (A : Option Addr) (wl : List G5) (B : Option Addr) (ll : List ByteArray) : Prop where
  want : Reads5 RG w A wl
  got : Kd.C Kd.string w B ll.length ll
  below : Below w0.heap.size w0 w
theorem Fo.more {w0 w w' : World} {A : Option Addr} {wl : List G5} {B : Option Addr} {ll : List ByteArray} (h : Fo w0 w A wl B ll) (hb : Below w.heap.size w w') : Fo w0 w' A wl B ll :=
  ⟨laterG h.want hb, Kd.C_below h.got hb, h.below.trans (hb.mono h.below.size)⟩
/-- One telegram of the last loop. -/
structure Lp (w0 w : World) (A : Option Addr) (wl : List G5) (B : Option Addr) (ll : List ByteArray) (h : Nat) (p : Addr) (g : G5) : Prop where
  fo : Fo w0 w A wl B ll
  own : w.heap[h]? = some (.cells #[.int .i64 g.a, .int .i64 g.b, .int .i64 g.c, .int .i64 g.d, .string g.t] 34 (0, 0))
  other : CellsG w p g
theorem CellsG.later {w w' : World} {a : Addr} {v : G5} (h : CellsG w a v) (hb : Below w.heap.size w w') : CellsG w' a v :=
  ⟨pw_cell_below hb h.c0, pw_cell_below hb h.c1, pw_cell_below hb h.c2, pw_cell_below hb h.c3, pw_cell_below hb h.c4⟩
theorem Lp.more {w0 w w' : World} {A : Option Addr} {wl : List G5} {B : Option Addr} {ll : List ByteArray} {h : Nat} {p : Addr} {g : G5} (H : Lp w0 w A wl B ll h p g) (hb : Below w.heap.size w w') : Lp w0 w' A wl B ll h p g :=
  ⟨H.fo.more hb, (hb.block h (blk_lt H.own)).trans H.own, H.other.later hb⟩
theorem ok_sealed {s : ByteArray} {g : G5} (h : Sealed s g) : g.ok := by
  obtain ⟨i1, i2, i3, i4⟩ := inr_of (okN_of h.2).1
  exact ⟨i1, i2, i3, i4⟩
theorem decL_length (P : ByteArray) : (decL P).length ≤ P.size + 1 := by
  unfold decL pays
  rw [List.length_map]
  refine Nat.le_trans (List.length_filterMap_le _ _) (Nat.le_trans (segs_length _) ?_)
  rw [len_size]; omega
theorem rd_map (wl : List G5) (k : Nat) (hk : k < wl.length) : rdOf ByteArray.empty (wl.map fun g => mkB (bytesG g)) (k : Int) = mkB (bytesG wl[k]) := by
  unfold rdOf
  rw [Int.toNat_natCast, List.getD_eq_getElem?_getD, List.getElem?_map, List.getElem?_eq_getElem hk]
  rfl
set_option maxHeartbeats 16000000 in
set_option maxRecDepth 100000 in
theorem GramFrames_any (s : ByteArray) (A : Option Addr) (c : Nat) (l : List G5) (cut : Int) (w : World) (hR : Reads5 RG w A l) (hc : l.length ≤ c) (hcm : c ≤ maxLen) (hM : MaxW w) (hD : DigW w) (hL : LimW w) (h4 : 4 ≤ w.heap.size) : Calls Tryd.prog 10 #[.string s, .slice A l.length c, .int .i64 cut] w fun e w' => e = .returned (.bool true) ∧ Below w.heap.size w w' := by
  unfold maxLen at hcm
  obtain ⟨i0, hi, hz0, hz1, hz2⟩ := info_parts info34
  have HR := Lib.hid hR; have HM := Lib.hid hM; have HD := Lib.hid hD; have HLM := Lib.hid hL
  clear hR hM hD hL
  go_enter Tryd.func10, Tryd.ntmps10
  go_wp2_with fail
  refine (small24_any w HM.out HD.out HLM.out h4).mono ?_
  rintro e w1 ⟨rfl, b1⟩
  have B1 := Lib.hid b1; clear b1
  go_wp2_with fail
  refine (short_any s ⟨#[]⟩ ⟨#[]⟩ w1).mono ?_
  by_cases hsh : s.size ≤ 300 ∧ (⟨#[]⟩ : ByteArray).size ≤ 300 ∧ (⟨#[]⟩ : ByteArray).size ≤ 300
  · rw [decide_eq_true hsh]
    rintro e w2 ⟨rfl, rfl⟩
    obtain ⟨hs1, _, _⟩ := hsh
    by_cases hl : l.length ≤ 10
    · have hl' : ¬ (10 : Int) < (l.length : Int) := by omega
      have K0 : Hid (Fm w w2 w2.heap.size s ⟨#[]⟩ (.slice none 0 0) []) := Lib.hid ⟨World.ownsRow_nil _ _ _ _, (fun g h => by cases h), Back.start crcF (by decide), B1.out, B1.out.size, Nat.le_refl _⟩
      go_wp2_with fail
      go_loopw [8, 9, 10] (fun v8 v9 v10 wr => ∃ (k : Nat) (S : ByteArray) (wl : List G5) (vv : Value), vv = v9 ∧ k ≤ l.length ∧ v8 = .string S ∧ v10 = .int .i64 k ∧ S.size ≤ 2050 * k ∧ wl.length ≤ k ∧ Hid (Fm w wr w2.heap.size s S vv wl)) (fun _ _ v10 _ => l.length - (intOf v10).toNat)
      case atStart => exact ⟨0, ⟨#[]⟩, [], _, rfl, by omega, rfl, rfl, by decide, by simp, K0⟩
      case round =>
        obtain ⟨k, S, wl, v9, rfl, hk, rfl, rfl, hSz, hwl, hB⟩ := hrel
        clear K0
        by_cases hlt : k < l.length
        · obtain ⟨ad, g, rfl, hg, hok, hcs⟩ := gram_at (laterG HR.out hB.out.below) k hlt
          have c0 := hcs.c0; have c1 := hcs.c1; have c2 := hcs.c2; have c3 := hcs.c3; have c4 := hcs.c4
          have HOK := Lib.hid hok
          clear hcs hok hg
          go_wp2_with fail
          clear c0 c1 c2 c3 c4
          refine (Seal_any s g.a g.b g.c g.d g.t wr (by omega) HOK.out.1 HOK.out.2.1 HOK.out.2.2.1 HOK.out.2.2.2 (HM.out.below hB.out.below) (HD.out.below hB.out.below)).mono ?_
          obtain ⟨TG, hTG⟩ : ∃ TG, tagB s g.a g.b g.c g.d = TG := ⟨_, rfl⟩
          have hTz : TG.size = 8 := by rw [← hTG]; exact tag_size _ _ _ _ _
          rw [hTG]
          have HTG := Lib.hid hTG; have HTZ := Lib.hid hTz
          clear hTG hTz
          rintro e w3 ⟨rfl, b3⟩
          have B3 := Lib.hid (hB.out.more b3); clear b3
          go_wp2_with fail
          obtain ⟨W4, hW4⟩ : ∃ W4, (w3.alloc (Obj.cells #[Value.int .i64 g.a, Value.int .i64 g.b, Value.int .i64 g.c, Value.int .i64 g.d, Value.string TG] 34)) = W4 := ⟨_, rfl⟩
          obtain ⟨h, hh⟩ : ∃ h, w3.heap.size = h := ⟨_, rfl⟩
          have N4 : Hid (Gl w W4 h g.a g.b g.c g.d TG) := Lib.hid (by rw [← hW4, ← hh]; exact ⟨heap_alloc_new w3 _, B3.out.below.alloc B3.out.below.size _, B3.out.below.size⟩)
          have B4 : Hid (Fm w W4 w2.heap.size s S v9 wl) := Lib.hid (B3.out.more (by rw [← hW4]; exact (Below.refl _ _).alloc (Nat.le_refl _) _))
          rw [hW4, hh]
          clear hW4 hh
          refine (Bytes_any g.a g.b g.c g.d TG W4 (by rw [HTZ.out]; decide) HOK.out.1 HOK.out.2.1 HOK.out.2.2.1 HOK.out.2.2.2 (HM.out.below B4.out.below) (HLM.out.below B4.out.below h4 h4) (Nat.le_trans h4 B4.out.below.size)).mono ?_
          rintro e w5 ⟨rfl, b5⟩
          have N5 := Lib.hid (N4.out.more b5); have B5 := Lib.hid (B4.out.more b5); clear b5
          cases hf : formedB g.a g.b g.c g.d TG
          · rw [bytes_no hf]
            clear hf
            go_wp2
            go_roundw
            case rel => exact ⟨k + 1, S, wl, v9, rfl, by omega, rfl, by go_num, by omega, by omega, B5⟩
            case measure => simp [intOf]; omega
          · obtain ⟨X, hX⟩ : ∃ X, mkB (bytesL g.a g.b g.c g.d TG) = X := ⟨_, rfl⟩
            have hbl := bytes_len g.a g.b g.c g.d TG hf
            have hXl : X.data.toList = bytesL g.a g.b g.c g.d TG := by rw [← hX]
            have hXz : X.size ≤ 100 := by rw [← hX, mkB_size]; exact hbl.2
            have hXn : X.toList.isEmpty = false := by rw [ByteArray.toList_eq, hXl, List.isEmpty_eq_false_iff]; intro h; rw [h] at hbl; exact absurd hbl.1 (by decide)
            rw [hX]
            have HF := Lib.hid hf; have HXL := Lib.hid hXl
            have d0 := blk_cell N5.out.blk 0; have d1 := blk_cell N5.out.blk 1; have d2 := blk_cell N5.out.blk 2; have d3 := blk_cell N5.out.blk 3; have d4 := blk_cell N5.out.blk 4
            have hro := B5.out.own
            obtain ⟨G, hG⟩ : ∃ G : G5, G = ⟨g.a, g.b, g.c, g.d, TG⟩ := ⟨_, rfl⟩
            have hGa : #[Value.int .i64 g.a, Value.int .i64 g.b, Value.int .i64 g.c, Value.int .i64 g.d, Value.string TG] = G.arr := by rw [hG]; rfl
            have HG := Lib.hid hG; have HGA := Lib.hid hGa
            clear hX hbl hXl hf hG hGa
            go_wp2_with (at_builtin; refine wpList_append_own _ rfl _ _ 39 rfl w2.heap.size 34 i0 (.agg #[.int .i64 0, .int .i64 0, .int .i64 0, .int .i64 0, .string ⟨#[]⟩]) 5 48 Tryd.underlying39 hi hz0 hz1 hz2 rfl (by decide) _ _ _ rfl (hro.alloc _) ⟨w5.heap.size, 0, none⟩ 1 1 G.arr.toList rfl rfl ?c1 ?c2 ?c3 ?c4 ?c5 ?_)
            case c1 => rw [HGA.out]; exact cells_five w5 G
            case c2 => rw [HG.out]; simp [G5.arr, Value.oneCell']
            case c3 => unfold maxLen; omega
            case c4 => omega
            case c5 => have := B5.out.size; simp; omega
            intro v' w6 hown' hgrow _
            have hB6 : Below w.heap.size w w6 := (B5.out.below.alloc B5.out.below.size _).grown hgrow (by have := B5.out.below.size; simp; omega) (fun k e => by have := own_base hro k e; have := B1.out.size; omega)
            have hsz6 : w2.heap.size ≤ w6.heap.size := by have := hgrow.size; have := B5.out.size; simp at *; omega
            have HB6 := Lib.hid hB6; have HSZ6 := Lib.hid hsz6; have HOWN := Lib.hid hown'
            obtain ⟨F, hF⟩ : ∃ F, mkB (encB crcF X.data.toList) = F := ⟨_, rfl⟩
            have hFl : F.data.toList = encB crcF X.data.toList := by rw [← hF]
            have hFz : F.size ≤ 2050 := by rw [← hF, mkB_size]; exact encB_length crcF _
            have hstep := Back.step crcF B5.out.back (bytesL g.a g.b g.c g.d TG)
            rw [if_neg (encB_short crcF (by have := bytes_len g.a g.b g.c g.d TG HF.out; omega))] at hstep
            have hSF : (S ++ F).data.toList = S.data.toList ++ encB crcF (bytesL g.a g.b g.c g.d TG) := by rw [ByteArray.data_append, Array.toList_append, hFl, HXL.out]
            rw [← hSF] at hstep
            have hsum : (S.size : Int) + (F.size : Int) ≤ 9223372036854775807 := by omega
            have hSz2 : (S ++ F).size ≤ 2050 * (k + 1) := by rw [ByteArray.size_append]; omega
            have HFF := Lib.hid hF; have HST := Lib.hid hstep; have HSZ2 := Lib.hid hSz2
            clear hown' hgrow hB6 hsz6 hro hF hFl hstep hSF hSz2 d0 d1 d2 d3 d4
            go_wp2_with fail
            refine (Encode_any X w6 (HM.out.below HB6.out) (by omega)).mono ?_
            rw [HFF.out]
            rintro e w7 ⟨rfl, b7⟩
            have K7 : Hid (Fm w w7 w2.heap.size s (S ++ F) v' (wl ++ [G])) := Lib.hid (by
              refine ⟨?_, ?_, ?_, HB6.out.trans (b7.mono HB6.out.size), B1.out.size, Nat.le_trans HSZ6.out b7.size⟩
              · rw [List.length_append, rowG_snoc]; exact own_below5 HOWN.out b7
              · intro x hx
                rcases List.mem_append.1 hx with h1 | h1
                · exact B5.out.seal_ x h1
                · have : x = G := by simpa using h1
                  rw [this, HG.out]
                  exact ⟨HTG.out.symm, HF.out⟩
              · rw [List.map_append, HG.out]; exact HST.out)
            clear b7
            go_wp2
            go_roundw
            case rel => exact ⟨k + 1, S ++ F, wl ++ [G], v', rfl, by omega, rfl, by go_num, HSZ2.out, by rw [List.length_append]; simp; omega, K7⟩
            case measure => simp [intOf]; omega
        · obtain rfl : k = l.length := by omega
          by_cases h0 : cut < 0
          · have h0d : decide (cut < 0) = true := decide_eq_true h0
            go_wp2
            go_ret
            exact ⟨rfl, hB.out.below⟩
          · by_cases h1 : (S.size : Int) < cut
            · have h0d : decide (cut < 0) = false := decide_eq_false h0
              go_wp2
              go_ret
              exact ⟨rfl, hB.out.below⟩
            · obtain ⟨m, rfl⟩ := Int.eq_ofNat_of_zero_le (show 0 ≤ cut by omega)
              have hm : m ≤ S.size := by omega
              have hm0 : (0 : Int) ≤ (m : Int) := by omega
              have hm1 : (m : Int) ≤ (S.size : Int) := by omega
              have h0d : decide ((m : Int) < 0) = false := decide_eq_false h0
              have h1d : ¬ (S.size : Int) < (m : Int) := h1
              obtain ⟨P, hP⟩ : ∃ P, S.extract 0 m = P := ⟨_, rfl⟩
              obtain ⟨Q, hQ⟩ : ∃ Q, S.extract m S.size = Q := ⟨_, rfl⟩
              have hPl : P.data.toList = S.data.toList.take m := by rw [← hP, extract_pre]
              have hQl : Q.data.toList = S.data.toList.drop m := by rw [← hQ, extract_drop]
              have hPz : P.size ≤ 20500 := by rw [← len_size, hPl, List.length_take, len_size]; omega
              have hQz : Q.size ≤ 20500 := by rw [← len_size, hQl, List.length_drop, len_size]; omega
              obtain ⟨RP, hRP⟩ : ∃ R, mkB (restB P.data.toList) = R := ⟨_, rfl⟩
              have hRPz : RP.size ≤ 2049 := by rw [← hRP, mkB_size]; exact restB_length _
              have hall : decL P ++ decL (RP ++ Q) = wl.map fun g => mkB (bytesG g) := by
                obtain ⟨k1, _⟩ := cut_two crcF P.data.toList Q.data.toList
                have e1 : P.data.toList ++ Q.data.toList = S.data.toList := by rw [hPl, hQl, List.take_append_drop]
                rw [e1, hB.out.back.1] at k1
                unfold decL
                have e2 : (RP ++ Q).data.toList = restB P.data.toList ++ Q.data.toList := by rw [ByteArray.data_append, Array.toList_append, ← hRP]
                rw [e2, ← List.map_append, ← k1, List.map_map]
                rfl
              have HP := Lib.hid hP; have HQ := Lib.hid hQ; have HRP := Lib.hid hRP; have HALL := Lib.hid hall
              clear hPl hQl hRP hall
              go_wp2_with fail
              refine (Decode_any P wr (HM.out.below hB.out.below) (by omega)).mono ?_
              rw [HRP.out]
              obtain ⟨D1, hD1⟩ : ∃ D, decL P = D := ⟨_, rfl⟩
              have hD1z := decL_length P
              rw [hD1] at hD1z
              rw [hD1]
              rintro e w3 ⟨v3, rfl, r3, b3⟩
              obtain ⟨A3, c3, rfl, hc3, hC3⟩ := Kd.R_reads r3
              have B3 := Lib.hid (hB.out.more b3); have HC3 := Lib.hid hC3; have HD1 := Lib.hid hD1
              have hpz : (RP.size : Int) + (Q.size : Int) ≤ 9223372036854775807 := by omega
              clear b3 r3 hC3 hD1
              go_wp2_with fail
              refine (Decode_any (RP ++ Q) w3 (HM.out.below B3.out.below) (by rw [ByteArray.size_append]; omega)).mono ?_
              obtain ⟨D2, hD2⟩ : ∃ D, decL (RP ++ Q) = D := ⟨_, rfl⟩
              have hD2z := decL_length (RP ++ Q)
              rw [ByteArray.size_append] at hD2z
              rw [hD2] at hD2z
              rw [hD2]
              obtain ⟨R2, hR2⟩ : ∃ D, mkB (restB (RP ++ Q).data.toList) = D := ⟨_, rfl⟩
              rw [hR2]
              rintro e w4 ⟨v4, rfl, r4, b4⟩
              obtain ⟨A4, c4, rfl, hc4, hC4⟩ := Kd.R_reads r4
              have B4 := Lib.hid (B3.out.more b4); have HC4 := Lib.hid hC4; have HC34 := Lib.hid (Kd.C_below HC3.out b4)
              have hcat := HALL.out
              rw [HD1.out, hD2] at hcat
              have HCAT := Lib.hid hcat
              clear b4 r4 hC4 hD2 hcat hR2
              go_wp2_with (at_builtin; refine Kd.R_append_row (w0 := w4) Value.string ByteArray.empty w4.heap.size rfl _ _ 40 9 (.string ⟨#[]⟩) 16 rfl Tryd.underlying40 info9 rfl (by decide) _ [] D1 A3 D1.length c3 (fun _ => True) rfl rfl (fun _ _ => trivial) ?r1 (Kd.C_below HC34.out ?r2) ?r2 ?r3 (by simp; omega) ?_)
              case r1 => exact ⟨fun _ _ => trivial, OwnRow.lit (ps := ([] : List ByteArray)) w4 w4.heap.size (Reps.none _ _) (Nat.le_refl _) (by decide)⟩
              case r2 => exact (Below.refl _ _).alloc (Nat.le_refl _) _
              case r3 => simp
              intro v5 w5 hown5 hb5 _ _
              have H5 := Lib.hid hown5; have HB5 := Lib.hid hb5; have HC45 := Lib.hid (Kd.C_below HC4.out hb5)
              clear hown5 hb5
              go_wp2_with (at_builtin; refine Kd.R_append_row (w0 := w4) Value.string ByteArray.empty w4.heap.size rfl _ _ 40 9 (.string ⟨#[]⟩) 16 rfl Tryd.underlying40 info9 rfl (by decide) _ D1 D2 A4 D2.length c4 (fun _ => True) rfl rfl (fun _ _ => trivial) H5.out HC45.out HB5.out HB5.out.size (by omega) ?_)
              intro v6 w6 hown6 hb6 _ _
              rw [HCAT.out] at hown6
              obtain ⟨A6, c6, rfl, hc6, hC6⟩ := Kd.R_reads hown6
              have B6 := Lib.hid (B4.out.more hb6)
              obtain ⟨A9, c9, rfl, hc9, hc9m, hR9⟩ := own_gram B6.out.own (fun g hg => ok_sealed (B6.out.seal_ g hg))
              obtain ⟨ll, hll⟩ : ∃ ll : List ByteArray, (wl.map fun g => mkB (bytesG g)) = ll := ⟨_, rfl⟩
              have hlz : ll.length = wl.length := by rw [← hll, List.length_map]
              rw [hll] at hC6 hc6
              rw [hll]
              rw [hlz] at hc6
              have SE := Lib.hid B6.out.seal_
              have F0 : Hid (Fo w w6 A9 wl A6 ll) := Lib.hid ⟨hR9, hC6, B6.out.below⟩
              have HLL := Lib.hid hll
              rw [hlz]
              have HLZ := Lib.hid hlz
              clear hown6 hb6 hR9 hC6 B6 B4 B3 HC3 HC34 HC45 H5 HB5 HC4 HCAT HALL HRP hB hll hlz hP hQ HP HQ
              go_wp2_with fail
              go_loopw [18] (fun i wr => ∃ (k : Nat), k ≤ wl.length ∧ i = .int .i64 k ∧ Hid (Fo w wr A9 wl A6 ll)) (fun i _ => wl.length - (intOf i).toNat)
              case atStart => exact ⟨0, by omega, rfl, F0⟩
              case round =>
                obtain ⟨k, hk, rfl, hB⟩ := hrel
                clear F0
                by_cases hlt : k < wl.length
                · obtain ⟨ad6, e6, x6⟩ := Kd.at_string hB.out.got (k : Int) (by omega) (by have := HLZ.out; omega)
                  rw [Int.toNat_natCast, ← HLL.out, rd_map wl k hlt] at x6
                  obtain ⟨g, hgk⟩ : ∃ g, wl[k] = g := ⟨_, rfl⟩
                  have hgm : g ∈ wl := by rw [← hgk]; exact List.getElem_mem hlt
                  rw [hgk] at x6
                  obtain ⟨hs1', hf⟩ := SE.out g hgm
                  have hgen : genuineB s g.a g.b g.c g.d g.t = true := by unfold genuineB; rw [hf, ← hs1']; simp
                  obtain ⟨oa, ob, oc, od⟩ := ok_sealed (SE.out g hgm)
                  obtain ⟨X, hX⟩ : ∃ X, mkB (bytesG g) = X := ⟨_, rfl⟩
                  have hXz : X.size ≤ 100 := by rw [← hX, mkB_size]; exact (bytes_len g.a g.b g.c g.d g.t hf).2
                  have hXr : rd5 X.data.toList = ⟨g.a, g.b, g.c, g.d, g.t, mkB [], false⟩ := by rw [← hX]; exact rd5_round g.a g.b g.c g.d g.t hf
                  rw [hX] at x6
                  have HF := Lib.hid hf; have HGEN := Lib.hid hgen; have OA := Lib.hid oa; have OB := Lib.hid ob; have OC := Lib.hid oc; have OD := Lib.hid od; have HXR := Lib.hid hXr; have HGK := Lib.hid hgk
                  subst e6
                  clear hf hgen oa ob oc od hXr hX hgm hs1' hgk
                  have k0 : (0 : Int) ≤ (k : Int) := by omega
                  have k1 : (k : Int) < (wl.length : Int) := by omega
                  go_wp2_with fail
                  clear x6
                  refine (Read_any X wr (by omega) (HLM.out.below hB.out.below h4 h4) (Nat.le_trans h4 hB.out.below.size)).mono ?_
                  rw [HXR.out, v_round _ _ _ _ _ HF.out, ok_round _ _ _ _ _ HF.out]
                  rintro e w7 ⟨rfl, b7⟩
                  have B7 := Lib.hid (hB.out.more b7); clear b7
                  go_wp2_with fail
                  obtain ⟨W8, hW8⟩ : ∃ W8, (w7.alloc (Obj.cells #[Value.int .i64 g.a, Value.int .i64 g.b, Value.int .i64 g.c, Value.int .i64 g.d, Value.string g.t] 34)) = W8 := ⟨_, rfl⟩
                  obtain ⟨h, hh⟩ : ∃ h, w7.heap.size = h := ⟨_, rfl⟩
                  obtain ⟨ad9, g', rfl, hg', _, hcs⟩ := gram_at B7.out.want k hlt
                  have : g' = g := by rw [List.getElem?_eq_getElem hlt, HGK.out] at hg'; injection hg' with e; exact e.symm
                  subst this
                  have hb8 : Below w7.heap.size w7 W8 := by rw [← hW8]; exact (Below.refl _ _).alloc (Nat.le_refl _) _
                  have L8 : Hid (Lp w W8 (some ad9) wl (some ad6) ll h (ad9.add (k * 5)) g') := Lib.hid ⟨B7.out.more hb8, by rw [← hW8, ← hh]; exact heap_alloc_new w7 _, hcs.later hb8⟩
                  rw [hW8, hh]
                  clear hW8 hh hb8 hcs hg' B7 hB
                  refine start_ (n := 16) (S := fun w' => Lp w w' (some ad9) wl (some ad6) ll h (ad9.add (k * 5)) g') (ds := []) #[false, false, false, false, false, false, false, false, false, false, false, false, false, false, false, false] (by kernel_rfl) rfl rfl (L8.out.more (below_drew (Below.refl _ _))) (fun hHeld => ?_)
                  refine pure_ (i := 0) (N := some 104) (v := ?_) (a' := ?_) #[true, false, false, false, false, false, false, false, false, false, false, false, false, false, false, false] rfl rfl (by kernel_rfl) (fun _ _ _ h => h) (Or.inl ⟨by rfl, ?_⟩) ?_ ?_
                  rotate_left
                  · intro w'
                    go_simp
                    with_reducible rfl
                  rotate_left
                  · simp only [Act.put, List.setIfInBounds_toArray, List.set_cons_zero, List.set_cons_succ, i64_w, i32_w]
                    rfl
                  refine pure_ (i := 1) (N := some 105) (v := ?_) (a' := ?_) #[true, true, false, false, false, false, false, false, false, false, false, false, false, false, false, false] rfl rfl (by kernel_rfl) (fun _ _ _ h => h) (Or.inl ⟨by rfl, ?_⟩) ?_ ?_
                  rotate_left
                  · intro w'
                    go_simp
                    with_reducible rfl
                  rotate_left
                  · simp only [Act.put, List.setIfInBounds_toArray, List.set_cons_zero, List.set_cons_succ, i64_w, i32_w]
                    rfl
                  refine pure_ (i := 2) (N := some 106) (v := ?_) (a' := ?_) #[true, true, true, false, false, false, false, false, false, false, false, false, false, false, false, false] rfl rfl (by kernel_rfl) (fun _ _ _ h => h) (Or.inl ⟨by rfl, ?_⟩) ?_ ?_
                  rotate_left
                  · intro w'
                    go_simp
                    with_reducible rfl
                  rotate_left
                  · simp only [Act.put, List.setIfInBounds_toArray, List.set_cons_zero, List.set_cons_succ, i64_w, i32_w]
                    rfl
                  refine take_ (i := 3) (N := some 107) (v := ?_) (a' := ?_) #[true, true, true, true, false, false, false, false, false, false, false, false, false, false, false, false] rfl rfl (by kernel_rfl) (fun _ _ _ h => h) (Or.inl ⟨by rfl, ?_⟩) hHeld ?_ ?_
                  rotate_left
                  · intro w' hL'
                    have c0 := blk_cell hL'.own 0
                    have c1 := blk_cell hL'.own 1
                    have c2 := blk_cell hL'.own 2
                    have c3 := blk_cell hL'.own 3
                    have c4 := blk_cell hL'.own 4
                    go_simp
                    with_reducible rfl
                  rotate_left
                  · simp only [Act.put, List.setIfInBounds_toArray, List.set_cons_zero, List.set_cons_succ, i64_w, i32_w]
                    rfl
                  refine pure_ (i := 4) (N := some 108) (v := ?_) (a' := ?_) #[true, true, true, true, true, false, false, false, false, false, false, false, false, false, false, false] rfl rfl (by kernel_rfl) (fun _ _ _ h => h) (Or.inl ⟨by rfl, ?_⟩) ?_ ?_
                  rotate_left
                  · intro w'
                    go_simp
                    with_reducible rfl
                  rotate_left
                  · simp only [Act.put, List.setIfInBounds_toArray, List.set_cons_zero, List.set_cons_succ, i64_w, i32_w]
                    rfl
                  refine pure_ (i := 5) (N := some 109) (v := ?_) (a' := ?_) #[true, true, true, true, true, true, false, false, false, false, false, false, false, false, false, false] rfl rfl (by kernel_rfl) (fun _ _ _ h => h) (Or.inl ⟨by rfl, ?_⟩) ?_ ?_
                  rotate_left
                  · intro w'
                    go_simp
                    with_reducible rfl
                  rotate_left
                  · simp only [Act.put, List.setIfInBounds_toArray, List.set_cons_zero, List.set_cons_succ, i64_w, i32_w]
                    rfl
                  refine pure_ (i := 6) (N := some 110) (v := ?_) (a' := ?_) #[true, true, true, true, true, true, true, false, false, false, false, false, false, false, false, false] rfl rfl (by kernel_rfl) (fun _ _ _ h => h) (Or.inl ⟨by rfl, ?_⟩) ?_ ?_
                  rotate_left
                  · intro w'
                    go_simp
                    with_reducible rfl
                  rotate_left
                  · simp only [Act.put, List.setIfInBounds_toArray, List.set_cons_zero, List.set_cons_succ, i64_w, i32_w]
                    rfl
                  refine take_ (i := 7) (N := some 111) (v := ?_) (a' := ?_) #[true, true, true, true, true, true, true, true, false, false, false, false, false, false, false, false] rfl rfl (by kernel_rfl) (fun _ _ _ h => h) (Or.inl ⟨by rfl, ?_⟩) hHeld ?_ ?_
                  rotate_left
                  · intro w' hL'
                    have c0 := hL'.other.c0
                    have c1 := hL'.other.c1
                    have c2 := hL'.other.c2
                    have c3 := hL'.other.c3
                    have c4 := hL'.other.c4
                    go_simp
                    with_reducible rfl
                  rotate_left
                  · simp only [Act.put, List.setIfInBounds_toArray, List.set_cons_zero, List.set_cons_succ, i64_w, i32_w]
                    rfl
                  refine pure_ (i := 8) (N := some 112) (v := ?_) (a' := ?_) #[true, true, true, true, true, true, true, true, true, false, false, false, false, false, false, false] rfl rfl (by kernel_rfl) (fun _ _ _ h => h) (Or.inl ⟨by rfl, ?_⟩) ?_ ?_
                  rotate_left
                  · intro w'
                    go_simp
                    with_reducible rfl
                  rotate_left
                  · simp only [Act.put, List.setIfInBounds_toArray, List.set_cons_zero, List.set_cons_succ, i64_w, i32_w]
                    rfl
                  refine pure_ (i := 9) (N := some 113) (v := ?_) (a' := ?_) #[true, true, true, true, true, true, true, true, true, true, false, false, false, false, false, false] rfl rfl (by kernel_rfl) (fun _ _ _ h => h) (Or.inl ⟨by rfl, ?_⟩) ?_ ?_
                  rotate_left
                  · intro w'
                    go_simp
                    with_reducible rfl
                  rotate_left
                  · simp only [Act.put, List.setIfInBounds_toArray, List.set_cons_zero, List.set_cons_succ, i64_w, i32_w]
                    rfl
                  refine pure_ (i := 10) (N := some 114) (v := ?_) (a' := ?_) #[true, true, true, true, true, true, true, true, true, true, true, false, false, false, false, false] rfl rfl (by kernel_rfl) (fun _ _ _ h => h) (Or.inl ⟨by rfl, ?_⟩) ?_ ?_
                  rotate_left
                  · intro w'
                    go_simp
                    with_reducible rfl
                  rotate_left
                  · simp only [Act.put, List.setIfInBounds_toArray, List.set_cons_zero, List.set_cons_succ, i64_w, i32_w]
                    rfl
                  refine pure_ (i := 11) (N := some 115) (v := ?_) (a' := ?_) #[true, true, true, true, true, true, true, true, true, true, true, true, false, false, false, false] rfl rfl (by kernel_rfl) (fun _ _ _ h => h) (Or.inl ⟨by rfl, ?_⟩) ?_ ?_
                  rotate_left
                  · intro w'
                    go_simp
                    with_reducible rfl
                  rotate_left
                  · simp only [Act.put, List.setIfInBounds_toArray, List.set_cons_zero, List.set_cons_succ, i64_w, i32_w]
                    rfl
                  refine take_ (i := 12) (N := some 116) (v := ?_) (a' := ?_) #[true, true, true, true, true, true, true, true, true, true, true, true, true, false, false, false] rfl rfl (by kernel_rfl) (fun _ _ _ h => h) (Or.inl ⟨by rfl, ?_⟩) hHeld ?_ ?_
                  rotate_left
                  · intro w' hL'
                    have c0 := blk_cell hL'.own 0
                    have c1 := blk_cell hL'.own 1
                    have c2 := blk_cell hL'.own 2
                    have c3 := blk_cell hL'.own 3
                    have c4 := blk_cell hL'.own 4
                    go_simp
                    with_reducible rfl
                  rotate_left
                  · simp only [Act.put, List.setIfInBounds_toArray, List.set_cons_zero, List.set_cons_succ, i64_w, i32_w]
                    rfl
                  refine one_ (i := 13) (N := some 117) #[true, true, true, true, true, true, true, true, true, true, true, true, true, true, false, false] rfl rfl (by kernel_rfl) (by decide) (fun K hK => ?_)
                  refine goes_ Tryd.func42 (by kernel_rfl) rfl #[.string s, .agg #[.int .i64 g'.a, .int .i64 g'.b, .int .i64 g'.c, .int .i64 g'.d, .string g'.t]] (by rfl) rfl rfl (by simp only [List.map_toArray, List.map_cons, List.map_nil]; rfl) ?_
                  refine (Genuine_any s g'.a g'.b g'.c g'.d g'.t _ (by omega) OA.out OB.out OC.out OD.out (HM.out.below hHeld.fo.below) (HD.out.below hHeld.fo.below) (HLM.out.below hHeld.fo.below h4 h4) (Nat.le_trans h4 hHeld.fo.below.size)).mono ?_
                  rw [HGEN.out]
                  rintro e w' ⟨rfl, hb'⟩
                  refine ⟨_, rfl, ?_⟩
                  refine hK.out _ _ (hHeld.more hb') (fun hHeld => ?_)
                  clear hK K
                  refine norm_ (a' := ?_) ?_ ?_
                  rotate_left
                  · show Act.put _ (some 117) _ = _
                    simp only [Act.put, List.setIfInBounds_toArray, List.set_cons_zero, List.set_cons_succ, i64_w, i32_w]
                    rfl
                  refine pure_ (i := 14) (N := some 118) (v := ?_) (a' := ?_) #[true, true, true, true, true, true, true, true, true, true, true, true, true, true, true, false] rfl rfl (by kernel_rfl) (fun _ _ _ h => h) (Or.inl ⟨by rfl, ?_⟩) ?_ ?_
                  rotate_left
                  · intro w'
                    go_simp
                    with_reducible rfl
                  rotate_left
                  · simp only [Act.put, List.setIfInBounds_toArray, List.set_cons_zero, List.set_cons_succ, i64_w, i32_w]
                    rfl
                  refine pure_ (i := 15) (N := some 119) (v := ?_) (a' := ?_) #[true, true, true, true, true, true, true, true, true, true, true, true, true, true, true, true] rfl rfl (by kernel_rfl) (fun _ _ _ h => h) (Or.inl ⟨by rfl, ?_⟩) ?_ ?_
                  rotate_left
                  · intro w'
                    go_simp
                    with_reducible rfl
                  rotate_left
                  · simp only [Act.put, List.setIfInBounds_toArray, List.set_cons_zero, List.set_cons_succ, i64_w, i32_w]
                    rfl
                  refine done_ (by kernel_rfl) ?_
                  go_wp2_with fail
                  go_roundw
                  case rel => exact ⟨k + 1, by omega, by go_num, Lib.hid hHeld.fo⟩
                  case measure => simp [intOf]; omega
                · obtain rfl : k = wl.length := by omega
                  go_wp2
                  go_ret
                  exact ⟨rfl, hB.out.below⟩
    · have hl' : (10 : Int) < (l.length : Int) := by omega
      go_wp2
      go_ret
      exact ⟨rfl, B1.out⟩
  · rw [decide_eq_false hsh]
    rintro e w2 ⟨rfl, rfl⟩
    go_wp2
    go_ret
    exact ⟨rfl, B1.out⟩
end Go.Proofs.YtdgejkiackeieaaDoor.Gm
end
