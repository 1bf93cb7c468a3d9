/- Proved here: the tied card of GramFrames: for every input the law returns true and leaves its arguments as they were ((THE STAGE'S THEOREM): for all secrets (of at most 300 bytes) and lists of at most 10 telegrams, the sealed telegrams that are well formed come out of the stream of their frames in order, all genuine, whatever portion of the stream arrives first: what the first portion leaves is the beginning of the rest (P24.2, P24.5; layers 2, 3, 23 and 24). Without using the reference.). Conditions: none beyond those of the given row: the listed package-level variables hold what the program lays in them. (Printed by genrow.py, a program of this session.) -/
import Derived.Test.YtdgejkiackeieaaDoorCards
import Derived.Test.YtdgejkiackeieaaDoorTie
import Derived.Test.YtdgejkiackeieaaDoorFacts
import Derived.Test.YtdgejkiackeieaaDoorGF1
import Derived.Test.YtdgejkiackeieaaDoorGF2
import Derived.Test.YtdgejkiackeieaaDoorGF3
import Derived.WalkKit
import Derived.ProofKit
import Derived.OpenShut
import Derived.ShutString
import Derived.ChangeOld
import Derived.Below
import Derived.SizedLaws
import Derived.LaidMore
import Derived.Lay
import Derived.SevenTiedAt
import Derived.Stop.Joined
namespace Go.Proofs.YtdgejkiackeieaaDoor.gramFrames
open Go.ChangeShapes Go.WideShapes Go.ChangeAt Go.RowKit
open Go.ChangeMaps (open_string shut_string)
open Go.Proofs.YtdgejkiackeieaaDoorW
set_option linter.unusedVariables false
theorem own : ownKnob Tryd.prog.godebug = none := by kernel_rfl
set_option maxRecDepth 100000 in
theorem lifted (os : Os) (started : os.Started) (H : Type) (enc : TypeId × Value → H) :
    ReturnsInHanded {} Tryd.checked os 10 .any (fun w args => (Rows.gramFramesSpec.pre enc Tryd.prog Tryd.f10 Rows.gramFramesRow.domain false w args ∧ laidMetH Tryd.prog Rows.gramFramesRow.laid w) ∧ sizedMet enc Tryd.prog Tryd.f10 (OpenSpec.ofChange Rows.gramFramesSpec) false w args)
      (Rows.gramFramesSpec.post enc Tryd.prog Tryd.f10 false true false false) := by
  refine returns_shaped (C := Tryd.checked) (X := fun w _ => laidMetH Tryd.prog Rows.gramFramesRow.laid w) (fun _ _ _ hh h => h.of_heap hh) own started (by kernel_rfl) Tryd.func10
    (ChangeSpec.witness_shaped (enc := enc) (C := Tryd.checked) (os := os) (X := fun w _ => laidMetH Tryd.prog Rows.gramFramesRow.laid w) false (World.laidAll Tryd.prog os Rows.gramFramesRow.laid) #[.string ByteArray.empty, .slice none 0 0, .int .i64 0] 8 (World.laidAll_os _ _ _)
      (World.shaped_of_ZipB (by kernel_rfl) (by kernel_rfl)) (by kernel_rfl) (by kernel_rfl) (by kernel_rfl)
      (by rw [MakeChecks.laidMetH_plain _ _ _ (by kernel_rfl)]; exact laidMet_laidAll _ (by kernel_rfl) (by kernel_rfl))) ?_
  intro W base args ds gs before hval0 hW hcnd hsz hL hsh
  have hval : ∀ (j : Nat) t v, Tryd.f10.params[j]? = some t → args[j]? = some v → Value.okWide Tryd.prog W .any base t v := hval0
  have hW' := hW
  obtain ⟨p, q, hA0, hV, rfl, hfz, hnd⟩ := hW
  have hA : DataW.TrodAll enc Tryd.prog W 0 (fun _ => true) true Tryd.f10.params.toList args.toList ds p := hA0
  rw [Tryd.params10] at hA hval hsz
  obtain ⟨v0, vs0, d0, ds0, p0, q0, hargs, rfl, rfl, h0, r0⟩ := trodAll_cons hA
  obtain ⟨v1, vs1, d1, ds1, p1, q1, rfl, rfl, rfl, h1, r1⟩ := trodAll_cons r0
  obtain ⟨v2, vs2, d2, ds2, p2, q2, rfl, rfl, rfl, h2, r2⟩ := trodAll_cons r1
  obtain ⟨rfl, rfl, rfl⟩ := trodAll_nil r2
  obtain rfl : args = #[v0, v1, v2] := by cases args; simp_all
  obtain ⟨rfl, rfl⟩ := trodVars_none hV
  obtain ⟨a0, rfl, rfl, rfl, y0⟩ := open_string Tryd.underlying9 (hval 0 9 v0 rfl rfl) h0
  have w0 : a0.size ≤ 140737488351232 := by
    have z := sized_string hsz (j := 0) (t := 9) rfl rfl
    rw [Array.length_toList] at z
    exact z
  obtain ⟨b1, len1, cap1, rfl⟩ := okWide_slice Tryd.underlying39 (hval 1 39 v1 rfl rfl)
  have k1 := h1
  have lt1 : ∀ x ∈ p1, x.block < W.heap.size := by obtain ⟨m, hm⟩ := k1; exact DataW.trod_lt m _ _ _ hm
  obtain ⟨l1, rfl, hc1, hm1, C1⟩ := open_grams h1
  obtain ⟨a2, rfl, rfl, rfl, y2⟩ := open_int Tryd.underlying3 (hval 2 3 v2 rfl rfl) h2
  have w2 := y2
  obtain ⟨gD, gL⟩ := both_of_laid (x := ("unicode/utf8.acceptRanges", Rows.laid_unicode_utf8_acceptRanges)) (r := Rows.gramFramesRow.laid.drop 5) (by kernel_rfl) hL
  have g4 : 4 ≤ W.heap.size := by obtain ⟨_, _, h⟩ := gL.low; exact (Array.getElem?_eq_some_iff.1 h).1
  have gM : MaxW W := maxw_of_shape hsh
  clear hA0 hval0 hsz
  refine (Gm.GramFrames_any a0 b1 cap1 l1 a2 W C1 hc1 hm1 gM gD gL g4).mono fun e W' ⟨he, bel⟩ => ?_
  subst he
  exact ⟨_, rfl, _, _, _, [], _, [], hW', trodAll_mk1 (shut_bool Tryd.underlying4 _), (trodAll_cons_mk (shut_string Tryd.underlying9 y0) (trodAll_cons_mk (Below.trod Facts.laidOut (by kernel_rfl) (of_decide_eq_true (by kernel_rfl)) k1 bel lt1) (trodAll_cons_mk (shut_int Tryd.underlying3 y2) trodAll_mk0))), rfl, bel.frame _, fun h => by cases h⟩
set_option maxRecDepth 100000
theorem wf : Rows.gramFramesRow.wf (OpenSpec.ofChange Rows.gramFramesSpec) = true := by kernel_rfl
theorem pars : Tryd.f10.params.all (Tryd.prog.readableRec ·) = true := by kernel_rfl
theorem nties : namedTie Tryd.prog Rows.gramFramesRow.named Rows.gramFramesSpec.vars = true := by kernel_rfl
theorem cInPlace : (Rows.gramFramesRow.inPlace == Tryd.prog.inPlace 10) = true := by kernel_rfl
theorem cUnfollowed : (Rows.gramFramesRow.unfollowed == Tryd.prog.unfollowed 10) = true := by kernel_rfl
theorem cRecurses : (Rows.gramFramesRow.recurses == Tryd.prog.recurses 10) = true := by kernel_rfl
theorem cNamed : (Rows.gramFramesRow.named == Tryd.prog.varsNamed 10) = true := by kernel_rfl
theorem an2 {a b : Bool} (ha : a = true) (hb : b = true) : (a && b) = true := by rw [ha, hb]; rfl
theorem joined : joinedFacts Tryd.prog 10 Tryd.f10 Rows.gramFramesSpec Rows.gramFramesRow = true :=
  (an2 (an2 (an2 (an2 (an2 (an2 (an2 (an2 (an2 (an2 (an2 (an2 (an2 (an2 (an2 (an2 (an2 (an2 (an2 (an2 (an2 (an2 (an2 (an2 (an2 (an2 (an2 (an2 (an2 (an2 (an2 wf Facts.laidOut) Facts.rowed) pars) nties) rfl) Facts.stops) rfl) Facts.knobs) cInPlace) cUnfollowed) cRecurses) cNamed) (by kernel_rfl)) (by kernel_rfl)) (by kernel_rfl)) (by kernel_rfl)) (by kernel_rfl)) (by kernel_rfl)) (by kernel_rfl)) (by kernel_rfl)) (by kernel_rfl)) Facts.plain) rfl) Facts.heard) Facts.enter) Facts.lifted) Facts.make) (by kernel_rfl)) (by kernel_rfl)) (by kernel_rfl)) (by kernel_rfl))
theorem over : Rows.gramFramesRow.holds Tryd.pinned (OpenSpec.ofChange Rows.gramFramesSpec) :=
  OpenClaim.holds_of_wide 10 Tryd.f10 rfl rfl rfl rfl rfl rfl rfl ⟨rfl, rfl, rfl, rfl, rfl⟩ rfl rfl rfl rfl rfl (by kernel_rfl) Tryd.func10 joined
    (of_decide_eq_true (by kernel_rfl)) (by unfold Func.isWrapper; first | (rw [if_pos (by decide +kernel)]; kernel_rfl) | (rw [if_neg (by decide +kernel)]; exact ⟨rfl, rfl⟩))
    (fun os started H enc _ => lifted os started H enc)
theorem card : Rows.GramFramesCardSaid :=
  Claim7.holds_tied_plain_at .later [] [.data, .widerDeep, .data, .data, .data, .pinned] true (true, "deabea112e40b4d73330d7c5bfa97124504dfc90892305b8c145421c8cac0f81") false over (fun _ h => by cases h) (by kernel_rfl) (fun _ h => by cases h) gramFrames_row_tie rfl ⟨rfl, rfl⟩ Facts.main rfl
    (fun f fn hf hfn => by
      obtain rfl : f = 10 := Option.some.inj ((show Tryd.prog.funcNamed "bourne/bournelaw24.GramFrames" = some 10 by kernel_rfl).symm.trans hf) |>.symm
      obtain rfl : fn = Tryd.f10 := (Option.some.inj (Tryd.func10.symm.trans hfn)).symm
      exact ⟨Facts.looks, fun j t ht => by
        rw [Tryd.params10] at ht
        have hm : t ∈ [9, 39, 3] := by simpa using Array.mem_of_getElem? ht
        have hall : ([9, 39, 3].all fun u => !Tryd.prog.wantsStandIn u) = true := by kernel_rfl
        exact (show Tryd.prog.wantsStandIn t = false by simpa using List.all_eq_true.1 hall t hm)⟩)
    (by kernel_rfl)
#print axioms card
end Go.Proofs.YtdgejkiackeieaaDoor.gramFrames
namespace Go.Proofs.YtdgejkiackeieaaDoor
/-- The card, under a short name, for the claim. -/
theorem gramFrames_card : Rows.GramFramesCardSaid := gramFrames.card
end Go.Proofs.YtdgejkiackeieaaDoor
