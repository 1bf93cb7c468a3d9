/- Proved here: the tied card of FrameBursts: for every input the law returns true and leaves its arguments as they were (for all payloads of at most 900 bytes and all changes of up to 16 consecutive bits in the body, the frame with the changed body is not decoded (P23.2, P23.5; 3).). Conditions: none beyond those of the given row: the listed package-level variables hold what the program lays in them. (Printed by genrow.py, a program of this session.) -/
import Derived.Test.YtdgejkiackeieaaDoorCards
import Derived.Test.YtdgejkiackeieaaDoorTie
import Derived.Test.YtdgejkiackeieaaDoorFacts
import Derived.Test.YtdgejkiackeieaaDoorFX1
import Derived.Test.YtdgejkiackeieaaDoorFX3
import Derived.WalkKit
import Derived.ProofKit
import Derived.OpenShut
import Derived.ShutString
import Derived.ChangeOld
import Derived.Below
import Derived.SizedLaws
import Derived.LaidMore
import Derived.Lay
import Derived.SevenTiedAt
import Derived.Stop.Joined
namespace Go.Proofs.YtdgejkiackeieaaDoor.frameBursts
open Go.ChangeShapes Go.WideShapes Go.ChangeAt Go.RowKit
open Go.ChangeMaps (open_string shut_string)
open Go.Proofs.YtdgejkiackeieaaDoorW
set_option linter.unusedVariables false
theorem own : ownKnob Tryd.prog.godebug = none := by kernel_rfl
set_option maxRecDepth 100000 in
theorem lifted (os : Os) (started : os.Started) (H : Type) (enc : TypeId × Value → H) :
    ReturnsInHanded {} Tryd.checked os 17 .any (fun w args => (Rows.frameBurstsSpec.pre enc Tryd.prog Tryd.f17 Rows.frameBurstsRow.domain false w args ∧ laidMetH Tryd.prog Rows.frameBurstsRow.laid w) ∧ sizedMet enc Tryd.prog Tryd.f17 (OpenSpec.ofChange Rows.frameBurstsSpec) false w args)
      (Rows.frameBurstsSpec.post enc Tryd.prog Tryd.f17 false true false false) := by
  refine returns_shaped (C := Tryd.checked) (X := fun w _ => laidMetH Tryd.prog Rows.frameBurstsRow.laid w) (fun _ _ _ hh h => h.of_heap hh) own started (by kernel_rfl) Tryd.func17
    (ChangeSpec.witness_shaped (enc := enc) (C := Tryd.checked) (os := os) (X := fun w _ => laidMetH Tryd.prog Rows.frameBurstsRow.laid w) false (World.laidAll Tryd.prog os Rows.frameBurstsRow.laid) #[.string ByteArray.empty, .int .i64 0, .int .u16 0] 8 (World.laidAll_os _ _ _)
      (World.shaped_of_ZipB (by kernel_rfl) (by kernel_rfl)) (by kernel_rfl) (by kernel_rfl) (by kernel_rfl)
      (by rw [MakeChecks.laidMetH_plain _ _ _ (by kernel_rfl)]; exact laidMet_laidAll _ (by kernel_rfl) (by kernel_rfl))) ?_
  intro W base args ds gs before hval0 hW hcnd hsz hL hsh
  have hval : ∀ (j : Nat) t v, Tryd.f17.params[j]? = some t → args[j]? = some v → Value.okWide Tryd.prog W .any base t v := hval0
  have hW' := hW
  obtain ⟨p, q, hA0, hV, rfl, hfz, hnd⟩ := hW
  have hA : DataW.TrodAll enc Tryd.prog W 0 (fun _ => true) true Tryd.f17.params.toList args.toList ds p := hA0
  rw [Tryd.params17] at hA hval hsz
  obtain ⟨v0, vs0, d0, ds0, p0, q0, hargs, rfl, rfl, h0, r0⟩ := trodAll_cons hA
  obtain ⟨v1, vs1, d1, ds1, p1, q1, rfl, rfl, rfl, h1, r1⟩ := trodAll_cons r0
  obtain ⟨v2, vs2, d2, ds2, p2, q2, rfl, rfl, rfl, h2, r2⟩ := trodAll_cons r1
  obtain ⟨rfl, rfl, rfl⟩ := trodAll_nil r2
  obtain rfl : args = #[v0, v1, v2] := by cases args; simp_all
  obtain ⟨rfl, rfl⟩ := trodVars_none hV
  obtain ⟨a0, rfl, rfl, rfl, y0⟩ := open_string Tryd.underlying9 (hval 0 9 v0 rfl rfl) h0
  have w0 : a0.size ≤ 140737488351232 := by
    have z := sized_string hsz (j := 0) (t := 9) rfl rfl
    rw [Array.length_toList] at z
    exact z
  obtain ⟨a1, rfl, rfl, rfl, y1⟩ := open_int Tryd.underlying3 (hval 1 3 v1 rfl rfl) h1
  have w1 := y1
  obtain ⟨a2, rfl, rfl, rfl, y2⟩ := open_int Tryd.underlying62 (hval 2 62 v2 rfl rfl) h2
  have w2 := y2
  have gM : MaxW W := maxw_of_shape hsh
  clear hA0 hval0 hsz
  refine (Fr.FrameBursts_any a0 a1 a2 W (i64_of_wf w1) (u16_of_wf w2).1 (u16_of_wf w2).2 gM).mono fun e W' ⟨he, bel⟩ => ?_
  subst he
  exact ⟨_, rfl, _, _, _, [], _, [], hW', trodAll_mk1 (shut_bool Tryd.underlying4 _), (trodAll_cons_mk (shut_string Tryd.underlying9 y0) (trodAll_cons_mk (shut_int Tryd.underlying3 y1) (trodAll_cons_mk (shut_int Tryd.underlying62 y2) trodAll_mk0))), rfl, bel.frame _, fun h => by cases h⟩
set_option maxRecDepth 100000
theorem wf : Rows.frameBurstsRow.wf (OpenSpec.ofChange Rows.frameBurstsSpec) = true := by kernel_rfl
theorem pars : Tryd.f17.params.all (Tryd.prog.readableRec ·) = true := by kernel_rfl
theorem nties : namedTie Tryd.prog Rows.frameBurstsRow.named Rows.frameBurstsSpec.vars = true := by kernel_rfl
theorem cInPlace : (Rows.frameBurstsRow.inPlace == Tryd.prog.inPlace 17) = true := by kernel_rfl
theorem cUnfollowed : (Rows.frameBurstsRow.unfollowed == Tryd.prog.unfollowed 17) = true := by kernel_rfl
theorem cRecurses : (Rows.frameBurstsRow.recurses == Tryd.prog.recurses 17) = true := by kernel_rfl
theorem cNamed : (Rows.frameBurstsRow.named == Tryd.prog.varsNamed 17) = true := by kernel_rfl
theorem an2 {a b : Bool} (ha : a = true) (hb : b = true) : (a && b) = true := by rw [ha, hb]; rfl
theorem joined : joinedFacts Tryd.prog 17 Tryd.f17 Rows.frameBurstsSpec Rows.frameBurstsRow = true :=
  (an2 (an2 (an2 (an2 (an2 (an2 (an2 (an2 (an2 (an2 (an2 (an2 (an2 (an2 (an2 (an2 (an2 (an2 (an2 (an2 (an2 (an2 (an2 (an2 (an2 (an2 (an2 (an2 (an2 (an2 (an2 wf Facts.laidOut) Facts.rowed) pars) nties) rfl) Facts.stops) rfl) Facts.knobs) cInPlace) cUnfollowed) cRecurses) cNamed) (by kernel_rfl)) (by kernel_rfl)) (by kernel_rfl)) (by kernel_rfl)) (by kernel_rfl)) (by kernel_rfl)) (by kernel_rfl)) (by kernel_rfl)) (by kernel_rfl)) Facts.plain) rfl) Facts.heard) Facts.enter) Facts.lifted) Facts.make) (by kernel_rfl)) (by kernel_rfl)) (by kernel_rfl)) (by kernel_rfl))
theorem over : Rows.frameBurstsRow.holds Tryd.pinned (OpenSpec.ofChange Rows.frameBurstsSpec) :=
  OpenClaim.holds_of_wide 17 Tryd.f17 rfl rfl rfl rfl rfl rfl rfl ⟨rfl, rfl, rfl, rfl, rfl⟩ rfl rfl rfl rfl rfl (by kernel_rfl) Tryd.func17 joined
    (of_decide_eq_true (by kernel_rfl)) (by unfold Func.isWrapper; first | (rw [if_pos (by decide +kernel)]; kernel_rfl) | (rw [if_neg (by decide +kernel)]; exact ⟨rfl, rfl⟩))
    (fun os started H enc _ => lifted os started H enc)
theorem card : Rows.FrameBurstsCardSaid :=
  Claim7.holds_tied_plain_at .later [] [.data, .pinned] true (true, "deabea112e40b4d73330d7c5bfa97124504dfc90892305b8c145421c8cac0f81") false over (fun _ h => by cases h) (by kernel_rfl) (fun _ h => by cases h) frameBursts_row_tie rfl ⟨rfl, rfl⟩ Facts.main rfl
    (fun f fn hf hfn => by
      obtain rfl : f = 17 := Option.some.inj ((show Tryd.prog.funcNamed "bourne/bournelaw23.FrameBursts" = some 17 by kernel_rfl).symm.trans hf) |>.symm
      obtain rfl : fn = Tryd.f17 := (Option.some.inj (Tryd.func17.symm.trans hfn)).symm
      exact ⟨Facts.looks, fun j t ht => by
        rw [Tryd.params17] at ht
        have hm : t ∈ [9, 3, 62] := by simpa using Array.mem_of_getElem? ht
        have hall : ([9, 3, 62].all fun u => !Tryd.prog.wantsStandIn u) = true := by kernel_rfl
        exact (show Tryd.prog.wantsStandIn t = false by simpa using List.all_eq_true.1 hall t hm)⟩)
    (by kernel_rfl)
#print axioms card
end Go.Proofs.YtdgejkiackeieaaDoor.frameBursts
namespace Go.Proofs.YtdgejkiackeieaaDoor
/-- The card, under a short name, for the claim. -/
theorem frameBursts_card : Rows.FrameBurstsCardSaid := frameBursts.card
end Go.Proofs.YtdgejkiackeieaaDoor
