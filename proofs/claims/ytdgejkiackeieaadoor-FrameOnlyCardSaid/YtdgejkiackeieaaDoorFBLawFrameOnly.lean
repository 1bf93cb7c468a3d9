/- Proved here: the tied card of FrameOnly: for every input the law returns true and leaves its arguments as they were (for all streams of at most 6000 bytes, the frames of the payloads that are decoded occur in the stream, one after the other, where the last flag of one may be the first one of the next (P23.2, P23.3). Without using the reference.). Conditions: none beyond those of the given row: the listed package-level variables hold what the program lays in them. (Printed by genrow.py, a program of this session.) -/
import Derived.Test.YtdgejkiackeieaaDoorCards
import Derived.Test.YtdgejkiackeieaaDoorTie
import Derived.Test.YtdgejkiackeieaaDoorFacts
import Derived.Test.YtdgejkiackeieaaDoorFB1
import Derived.WalkKit
import Derived.ProofKit
import Derived.OpenShut
import Derived.ShutString
import Derived.ChangeOld
import Derived.Below
import Derived.SizedLaws
import Derived.LaidMore
import Derived.Lay
import Derived.SevenTiedAt
import Derived.Stop.Joined
namespace Go.Proofs.YtdgejkiackeieaaDoor.frameOnly
open Go.ChangeShapes Go.WideShapes Go.ChangeAt Go.RowKit
open Go.ChangeMaps (open_string shut_string)
open Go.Proofs.YtdgejkiackeieaaDoorW
set_option linter.unusedVariables false
theorem own : ownKnob Tryd.prog.godebug = none := by kernel_rfl
set_option maxRecDepth 100000 in
theorem lifted (os : Os) (started : os.Started) (H : Type) (enc : TypeId × Value → H) :
    ReturnsInHanded {} Tryd.checked os 16 .any (fun w args => (Rows.frameOnlySpec.pre enc Tryd.prog Tryd.f16 Rows.frameOnlyRow.domain false w args ∧ laidMetH Tryd.prog Rows.frameOnlyRow.laid w) ∧ sizedMet enc Tryd.prog Tryd.f16 (OpenSpec.ofChange Rows.frameOnlySpec) false w args)
      (Rows.frameOnlySpec.post enc Tryd.prog Tryd.f16 false true false false) := by
  refine returns_shaped (C := Tryd.checked) (X := fun w _ => laidMetH Tryd.prog Rows.frameOnlyRow.laid w) (fun _ _ _ hh h => h.of_heap hh) own started (by kernel_rfl) Tryd.func16
    (ChangeSpec.witness_shaped (enc := enc) (C := Tryd.checked) (os := os) (X := fun w _ => laidMetH Tryd.prog Rows.frameOnlyRow.laid w) false (World.laidAll Tryd.prog os Rows.frameOnlyRow.laid) #[.string ByteArray.empty] 8 (World.laidAll_os _ _ _)
      (World.shaped_of_ZipB (by kernel_rfl) (by kernel_rfl)) (by kernel_rfl) (by kernel_rfl) (by kernel_rfl)
      (by rw [MakeChecks.laidMetH_plain _ _ _ (by kernel_rfl)]; exact laidMet_laidAll _ (by kernel_rfl) (by kernel_rfl))) ?_
  intro W base args ds gs before hval0 hW hcnd hsz hL hsh
  have hval : ∀ (j : Nat) t v, Tryd.f16.params[j]? = some t → args[j]? = some v → Value.okWide Tryd.prog W .any base t v := hval0
  have hW' := hW
  obtain ⟨p, q, hA0, hV, rfl, hfz, hnd⟩ := hW
  have hA : DataW.TrodAll enc Tryd.prog W 0 (fun _ => true) true Tryd.f16.params.toList args.toList ds p := hA0
  rw [Tryd.params16] at hA hval hsz
  obtain ⟨v0, vs0, d0, ds0, p0, q0, hargs, rfl, rfl, h0, r0⟩ := trodAll_cons hA
  obtain ⟨rfl, rfl, rfl⟩ := trodAll_nil r0
  obtain rfl : args = #[v0] := by cases args; simp_all
  obtain ⟨rfl, rfl⟩ := trodVars_none hV
  obtain ⟨a0, rfl, rfl, rfl, y0⟩ := open_string Tryd.underlying9 (hval 0 9 v0 rfl rfl) h0
  have w0 : a0.size ≤ 140737488351232 := by
    have z := sized_string hsz (j := 0) (t := 9) rfl rfl
    rw [Array.length_toList] at z
    exact z
  have gM : MaxW W := maxw_of_shape hsh
  clear hA0 hval0 hsz
  refine (Fr.FrameOnly_any a0 W gM).mono fun e W' ⟨he, bel⟩ => ?_
  subst he
  exact ⟨_, rfl, _, _, _, [], _, [], hW', trodAll_mk1 (shut_bool Tryd.underlying4 _), trodAll_mk1 (shut_string Tryd.underlying9 y0), rfl, bel.frame _, fun h => by cases h⟩
set_option maxRecDepth 100000
theorem wf : Rows.frameOnlyRow.wf (OpenSpec.ofChange Rows.frameOnlySpec) = true := by kernel_rfl
theorem pars : Tryd.f16.params.all (Tryd.prog.readableRec ·) = true := by kernel_rfl
theorem nties : namedTie Tryd.prog Rows.frameOnlyRow.named Rows.frameOnlySpec.vars = true := by kernel_rfl
theorem cInPlace : (Rows.frameOnlyRow.inPlace == Tryd.prog.inPlace 16) = true := by kernel_rfl
theorem cUnfollowed : (Rows.frameOnlyRow.unfollowed == Tryd.prog.unfollowed 16) = true := by kernel_rfl
theorem cRecurses : (Rows.frameOnlyRow.recurses == Tryd.prog.recurses 16) = true := by kernel_rfl
theorem cNamed : (Rows.frameOnlyRow.named == Tryd.prog.varsNamed 16) = true := by kernel_rfl
theorem an2 {a b : Bool} (ha : a = true) (hb : b = true) : (a && b) = true := by rw [ha, hb]; rfl
theorem joined : joinedFacts Tryd.prog 16 Tryd.f16 Rows.frameOnlySpec Rows.frameOnlyRow = true :=
  (an2 (an2 (an2 (an2 (an2 (an2 (an2 (an2 (an2 (an2 (an2 (an2 (an2 (an2 (an2 (an2 (an2 (an2 (an2 (an2 (an2 (an2 (an2 (an2 (an2 (an2 (an2 (an2 (an2 (an2 (an2 wf Facts.laidOut) Facts.rowed) pars) nties) rfl) Facts.stops) rfl) Facts.knobs) cInPlace) cUnfollowed) cRecurses) cNamed) (by kernel_rfl)) (by kernel_rfl)) (by kernel_rfl)) (by kernel_rfl)) (by kernel_rfl)) (by kernel_rfl)) (by kernel_rfl)) (by kernel_rfl)) (by kernel_rfl)) Facts.plain) rfl) Facts.heard) Facts.enter) Facts.lifted) Facts.make) (by kernel_rfl)) (by kernel_rfl)) (by kernel_rfl)) (by kernel_rfl))
theorem over : Rows.frameOnlyRow.holds Tryd.pinned (OpenSpec.ofChange Rows.frameOnlySpec) :=
  OpenClaim.holds_of_wide 16 Tryd.f16 rfl rfl rfl rfl rfl rfl rfl ⟨rfl, rfl, rfl, rfl, rfl⟩ rfl rfl rfl rfl rfl (by kernel_rfl) Tryd.func16 joined
    (of_decide_eq_true (by kernel_rfl)) (by unfold Func.isWrapper; first | (rw [if_pos (by decide +kernel)]; kernel_rfl) | (rw [if_neg (by decide +kernel)]; exact ⟨rfl, rfl⟩))
    (fun os started H enc _ => lifted os started H enc)
theorem card : Rows.FrameOnlyCardSaid :=
  Claim7.holds_tied_plain_at .later [] [.data, .pinned] true (true, "deabea112e40b4d73330d7c5bfa97124504dfc90892305b8c145421c8cac0f81") false over (fun _ h => by cases h) (by kernel_rfl) (fun _ h => by cases h) frameOnly_row_tie rfl ⟨rfl, rfl⟩ Facts.main rfl
    (fun f fn hf hfn => by
      obtain rfl : f = 16 := Option.some.inj ((show Tryd.prog.funcNamed "bourne/bournelaw23.FrameOnly" = some 16 by kernel_rfl).symm.trans hf) |>.symm
      obtain rfl : fn = Tryd.f16 := (Option.some.inj (Tryd.func16.symm.trans hfn)).symm
      exact ⟨Facts.looks, fun j t ht => by
        rw [Tryd.params16] at ht
        have hm : t ∈ [9] := by simpa using Array.mem_of_getElem? ht
        have hall : ([9].all fun u => !Tryd.prog.wantsStandIn u) = true := by kernel_rfl
        exact (show Tryd.prog.wantsStandIn t = false by simpa using List.all_eq_true.1 hall t hm)⟩)
    (by kernel_rfl)
#print axioms card
end Go.Proofs.YtdgejkiackeieaaDoor.frameOnly
namespace Go.Proofs.YtdgejkiackeieaaDoor
/-- The card, under a short name, for the claim. -/
theorem frameOnly_card : Rows.FrameOnlyCardSaid := frameOnly.card
end Go.Proofs.YtdgejkiackeieaaDoor
