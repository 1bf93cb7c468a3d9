/- Proved here: the tied card of GramOrders: for every input the law returns true and leaves its arguments as they were (for all two well-formed telegrams, comparing their Bytes compares Gauge, Seq, Clock, Value and Tag, in this order (P24.2, P24.4; layers 2 and 24). Without using the reference.). Conditions: none beyond those of the given row: the listed package-level variables hold what the program lays in them. (Printed by genrow.py, a program of this session.) -/
import Derived.Test.YtdgejkiackeieaaDoorCards
import Derived.Test.YtdgejkiackeieaaDoorTie
import Derived.Test.YtdgejkiackeieaaDoorFacts
import Derived.Test.YtdgejkiackeieaaDoorGB1
import Derived.Test.YtdgejkiackeieaaDoorGB2
import Derived.Test.YtdgejkiackeieaaDoorGB3
import Derived.WalkKit
import Derived.ProofKit
import Derived.OpenShut
import Derived.ShutString
import Derived.ChangeOld
import Derived.Below
import Derived.SizedLaws
import Derived.LaidMore
import Derived.Lay
import Derived.SevenTiedAt
import Derived.Stop.Joined
namespace Go.Proofs.YtdgejkiackeieaaDoor.gramOrders
open Go.ChangeShapes Go.WideShapes Go.ChangeAt Go.RowKit
open Go.ChangeMaps (open_string shut_string)
open Go.Proofs.YtdgejkiackeieaaDoorW
set_option linter.unusedVariables false
theorem own : ownKnob Tryd.prog.godebug = none := by kernel_rfl
set_option maxRecDepth 100000 in
theorem lifted (os : Os) (started : os.Started) (H : Type) (enc : TypeId × Value → H) :
    ReturnsInHanded {} Tryd.checked os 24 .any (fun w args => (Rows.gramOrdersSpec.pre enc Tryd.prog Tryd.f24 Rows.gramOrdersRow.domain false w args ∧ laidMetH Tryd.prog Rows.gramOrdersRow.laid w) ∧ sizedMet enc Tryd.prog Tryd.f24 (OpenSpec.ofChange Rows.gramOrdersSpec) false w args)
      (Rows.gramOrdersSpec.post enc Tryd.prog Tryd.f24 false true false false) := by
  refine returns_shaped (C := Tryd.checked) (X := fun w _ => laidMetH Tryd.prog Rows.gramOrdersRow.laid w) (fun _ _ _ hh h => h.of_heap hh) own started (by kernel_rfl) Tryd.func24
    (ChangeSpec.witness_shaped (enc := enc) (C := Tryd.checked) (os := os) (X := fun w _ => laidMetH Tryd.prog Rows.gramOrdersRow.laid w) false (World.laidAll Tryd.prog os Rows.gramOrdersRow.laid) #[.agg #[.int .i64 0, .int .i64 0, .int .i64 0, .int .i64 0, .string ByteArray.empty], .agg #[.int .i64 0, .int .i64 0, .int .i64 0, .int .i64 0, .string ByteArray.empty]] 8 (World.laidAll_os _ _ _)
      (World.shaped_of_ZipB (by kernel_rfl) (by kernel_rfl)) (by kernel_rfl) (by kernel_rfl) (by kernel_rfl)
      (by rw [MakeChecks.laidMetH_plain _ _ _ (by kernel_rfl)]; exact laidMet_laidAll _ (by kernel_rfl) (by kernel_rfl))) ?_
  intro W base args ds gs before hval0 hW hcnd hsz hL hsh
  have hval : ∀ (j : Nat) t v, Tryd.f24.params[j]? = some t → args[j]? = some v → Value.okWide Tryd.prog W .any base t v := hval0
  have hW' := hW
  obtain ⟨p, q, hA0, hV, rfl, hfz, hnd⟩ := hW
  have hA : DataW.TrodAll enc Tryd.prog W 0 (fun _ => true) true Tryd.f24.params.toList args.toList ds p := hA0
  rw [Tryd.params24] at hA hval hsz
  obtain ⟨v0, vs0, d0, ds0, p0, q0, hargs, rfl, rfl, h0, r0⟩ := trodAll_cons hA
  obtain ⟨v1, vs1, d1, ds1, p1, q1, rfl, rfl, rfl, h1, r1⟩ := trodAll_cons r0
  obtain ⟨rfl, rfl, rfl⟩ := trodAll_nil r1
  obtain rfl : args = #[v0, v1] := by cases args; simp_all
  obtain ⟨rfl, rfl⟩ := trodVars_none hV
  have k0 := h0
  have lt0 : ∀ x ∈ p0, x.block < W.heap.size := by obtain ⟨m, hm⟩ := k0; exact DataW.trod_lt m _ _ _ hm
  obtain ⟨G0, rfl, O0⟩ := open_gram (hval 0 34 v0 rfl rfl) h0
  have k1 := h1
  have lt1 : ∀ x ∈ p1, x.block < W.heap.size := by obtain ⟨m, hm⟩ := k1; exact DataW.trod_lt m _ _ _ hm
  obtain ⟨G1, rfl, O1⟩ := open_gram (hval 1 34 v1 rfl rfl) h1
  obtain ⟨gD, gL⟩ := both_of_laid (x := ("unicode/utf8.acceptRanges", Rows.laid_unicode_utf8_acceptRanges)) (r := Rows.gramOrdersRow.laid.drop 5) (by kernel_rfl) hL
  have g4 : 4 ≤ W.heap.size := by obtain ⟨_, _, h⟩ := gL.low; exact (Array.getElem?_eq_some_iff.1 h).1
  have gM : MaxW W := maxw_of_shape hsh
  clear hA0 hval0 hsz
  refine (Gm.GramOrders_any G0.a G0.b G0.c G0.d G0.t G1.a G1.b G1.c G1.d G1.t W O0.1 O0.2.1 O0.2.2.1 O0.2.2.2 O1.1 O1.2.1 O1.2.2.1 O1.2.2.2 gM gD gL g4).mono fun e W' ⟨he, bel⟩ => ?_
  subst he
  exact ⟨_, rfl, _, _, _, [], _, [], hW', trodAll_mk1 (shut_bool Tryd.underlying4 _), (trodAll_cons_mk (Below.trod Facts.laidOut (by kernel_rfl) (of_decide_eq_true (by kernel_rfl)) k0 bel lt0) (trodAll_cons_mk (Below.trod Facts.laidOut (by kernel_rfl) (of_decide_eq_true (by kernel_rfl)) k1 bel lt1) trodAll_mk0)), rfl, bel.frame _, fun h => by cases h⟩
set_option maxRecDepth 100000
theorem wf : Rows.gramOrdersRow.wf (OpenSpec.ofChange Rows.gramOrdersSpec) = true := by kernel_rfl
theorem pars : Tryd.f24.params.all (Tryd.prog.readableRec ·) = true := by kernel_rfl
theorem nties : namedTie Tryd.prog Rows.gramOrdersRow.named Rows.gramOrdersSpec.vars = true := by kernel_rfl
theorem cInPlace : (Rows.gramOrdersRow.inPlace == Tryd.prog.inPlace 24) = true := by kernel_rfl
theorem cUnfollowed : (Rows.gramOrdersRow.unfollowed == Tryd.prog.unfollowed 24) = true := by kernel_rfl
theorem cRecurses : (Rows.gramOrdersRow.recurses == Tryd.prog.recurses 24) = true := by kernel_rfl
theorem cNamed : (Rows.gramOrdersRow.named == Tryd.prog.varsNamed 24) = true := by kernel_rfl
theorem an2 {a b : Bool} (ha : a = true) (hb : b = true) : (a && b) = true := by rw [ha, hb]; rfl
theorem joined : joinedFacts Tryd.prog 24 Tryd.f24 Rows.gramOrdersSpec Rows.gramOrdersRow = true :=
  (an2 (an2 (an2 (an2 (an2 (an2 (an2 (an2 (an2 (an2 (an2 (an2 (an2 (an2 (an2 (an2 (an2 (an2 (an2 (an2 (an2 (an2 (an2 (an2 (an2 (an2 (an2 (an2 (an2 (an2 (an2 wf Facts.laidOut) Facts.rowed) pars) nties) rfl) Facts.stops) rfl) Facts.knobs) cInPlace) cUnfollowed) cRecurses) cNamed) (by kernel_rfl)) (by kernel_rfl)) (by kernel_rfl)) (by kernel_rfl)) (by kernel_rfl)) (by kernel_rfl)) (by kernel_rfl)) (by kernel_rfl)) (by kernel_rfl)) Facts.plain) rfl) Facts.heard) Facts.enter) Facts.lifted) Facts.make) (by kernel_rfl)) (by kernel_rfl)) (by kernel_rfl)) (by kernel_rfl))
theorem over : Rows.gramOrdersRow.holds Tryd.pinned (OpenSpec.ofChange Rows.gramOrdersSpec) :=
  OpenClaim.holds_of_wide 24 Tryd.f24 rfl rfl rfl rfl rfl rfl rfl ⟨rfl, rfl, rfl, rfl, rfl⟩ rfl rfl rfl rfl rfl (by kernel_rfl) Tryd.func24 joined
    (of_decide_eq_true (by kernel_rfl)) (by unfold Func.isWrapper; first | (rw [if_pos (by decide +kernel)]; kernel_rfl) | (rw [if_neg (by decide +kernel)]; exact ⟨rfl, rfl⟩))
    (fun os started H enc _ => lifted os started H enc)
theorem card : Rows.GramOrdersCardSaid :=
  Claim7.holds_tied_plain_at .later [] [.data, .widerDeep, .data, .data, .data, .pinned] true (true, "deabea112e40b4d73330d7c5bfa97124504dfc90892305b8c145421c8cac0f81") false over (fun _ h => by cases h) (by kernel_rfl) (fun _ h => by cases h) gramOrders_row_tie rfl ⟨rfl, rfl⟩ Facts.main rfl
    (fun f fn hf hfn => by
      obtain rfl : f = 24 := Option.some.inj ((show Tryd.prog.funcNamed "bourne/bournelaw24.GramOrders" = some 24 by kernel_rfl).symm.trans hf) |>.symm
      obtain rfl : fn = Tryd.f24 := (Option.some.inj (Tryd.func24.symm.trans hfn)).symm
      exact ⟨Facts.looks, fun j t ht => by
        rw [Tryd.params24] at ht
        have hm : t ∈ [34, 34] := by simpa using Array.mem_of_getElem? ht
        have hall : ([34, 34].all fun u => !Tryd.prog.wantsStandIn u) = true := by kernel_rfl
        exact (show Tryd.prog.wantsStandIn t = false by simpa using List.all_eq_true.1 hall t hm)⟩)
    (by kernel_rfl)
#print axioms card
end Go.Proofs.YtdgejkiackeieaaDoor.gramOrders
namespace Go.Proofs.YtdgejkiackeieaaDoor
/-- The card, under a short name, for the claim. -/
theorem gramOrders_card : Rows.GramOrdersCardSaid := gramOrders.card
end Go.Proofs.YtdgejkiackeieaaDoor
