-- printed by a program of this session's (xprint.py) out of the translation; Lean checks it
import Derived.Test.YtdgejkiackeieaaDoorTells2
namespace Go.Proofs.YtdgejkiackeieaaDoor.PDigestTells
open Go.RowKit Go.Proofs.YtdgejkiackeieaaDoorW.PrintWords Go.Proofs.YtdgejkiackeieaaDoorW.PrintLast Go.Proofs.YtdgejkiackeieaaDoorW.PrintMore
attribute [local go_sem] max2_int min2_int max_two min_two max_three min_three max_four min_four   -- for this text's walks alone
set_option linter.unusedVariables false
set_option linter.unusedSimpArgs false

set_option maxHeartbeats 8000000 in
set_option maxRecDepth 100000 in
theorem bourneref03_compress.calls (k : Nat) (A0 : Option Addr) (c0 : Nat) (l0 : List Int) (a1 : ByteArray) (a2 : Int) (r : List Int) (w : World) (hr0 : Kd.C (Kd.int .u32) w A0 l0.length l0) (hc0 : l0.length ≤ c0) (h : bourneref03_compress.f k l0 a1 a2 = some r) :
  Calls Tryd.prog 98 #[.slice A0 l0.length c0, .string a1, .int .i64 a2] w fun e w' => ∃ v0_ : Value, e = .returned (v0_) ∧ Kd.R (Kd.int .u32) 97 w' w.heap.size (fun _ => True) v0_ r ∧ Below w.heap.size w w' := by
 have HR0 := Aside0.mk hr0
 have HC0 := Aside0.mk hc0
 clear hr0 hc0
 have HB := Aside0.mk (Below.refl w.heap.size w)
 have H : (bourneref03_compress.l0 k l0 a1 a2 ([] : List Int) 0) = some r := h
 clear h
 have H' := Aside0.mk H
 clear H
 go_enter Tryd.func98, Tryd.ntmps98
 go_wp2
 go_loopg [7, 8] k (fun kq v7 v8 w' => ∃ (x7_1 : List Int) (x8_1 : Int), v8 = .int .i64 x8_1 ∧ Aside0 (bourneref03_compress.l0 kq l0 a1 a2 x7_1 x8_1 = some r) ∧ Aside0 (kq ≤ k) ∧ Aside0 (Kd.R (Kd.int .u32) 97 w' w.heap.size (fun _ => True) v7 x7_1) ∧ Aside0 (Below w.heap.size w w'))
 case atStart => exact ⟨(([] : List Int)), (0), (by first | rfl | (simp; done) | (simp [*]; done)), H', ⟨Nat.le_refl _⟩, ⟨by first | exact Kd.R_nil _ _ _ _ _ | exact Kd.N_nil _ _ _ _ _ | exact Kd.V_nil _ _ _ _ _ | exact Kd.Q_nil _ _ _ _ _ | exact Kd.S_nil _ _ _ _ _⟩, ⟨by repeat (first | (with_reducible first | exact HB.out | apply below_alloc | apply pw_below_drewN | apply below_drew1) | exact HB.out)⟩⟩
 case round =>
  clear H'
  try clear p2
  obtain ⟨x7_1, x8_1, rfl, HA, HK1, HO_7, HB⟩ := hrel
  cases gk with
  | zero => exact absurd HA.out (by simp [bourneref03_compress.l0])
  | succ k1 =>
   have H := HA.out
   clear HA
   simp only [bourneref03_compress.l0] at H
   by_cases c4 : x8_1 < 16
   ·rw [if_pos c4] at H
    have c4b0 : decide (x8_1 < 16) = true := decide_eq_true c4
    clear c4
    replace H := Option.bind_eq_some_iff.mp H
    obtain ⟨t167, A50, H⟩ := H
    replace H : (if x7_1.length < 35184372088832 then (bourneref03_compress.l0 k1 l0 a1 a2 (x7_1 ++ [t167]) (wrap64 (x8_1 + 1))) else (none)) = some r := H
    have A5 := Aside0.mk A50
    clear A50
    by_cases c6 : x7_1.length < 35184372088832
    ·rw [if_pos c6] at H
     have LMc6 := Aside0.mk c6
     clear c6
     obtain ⟨y168, hy168⟩ : ∃ y_ : List Int, y_ = (x7_1 ++ [t167]) := ⟨_, rfl⟩
     replace H : (bourneref03_compress.l0 k1 l0 a1 a2 y168 (wrap64 (x8_1 + 1))) = some r := by first | (rw [hy168]; with_reducible exact H) | (have H2_ := (Option.bind_some _ _).symm.trans H; rw [hy168]; with_reducible exact H2_) | (have H2_ := (Option.bind_some _ _).symm.trans H; with_reducible exact H2_) | with_reducible exact H | (rw [hy168]; exact H) | exact H
     have Ny168 := Aside0.mk hy168
     clear hy168
     have H' := Aside0.mk H
     clear H
     go_wp2_with (first | ((with_reducible refine gate_callee (f := 128) rfl ?_); refine goesL_ (some 25) rfl rfl Tryd.func128 (by kernel_rfl) rfl #[.string a1, .int .i64 (wrap64 (a2 + (wrap64 (4 * x8_1))))] rfl (by (try simp only [List.map_toArray, List.map_cons, List.map_nil]); first | done | rfl | (simp only [List.length_drop, List.length_take]; rfl)) ?_; (with_reducible refine (bourneref03_word.calls k1 a1 (wrap64 (a2 + (wrap64 (4 * x8_1)))) t167 _ A5.out).mono ?_); rintro e w' ⟨rfl, ⟨nd, rfl⟩⟩; refine ⟨_, rfl, ?_⟩) | ((with_reducible refine gate_builtin (b := .append) (xs := #[.tmp 19, .tmp 26]) rfl ?_); at_builtin; refine Kd.R_append (Kd.int .u32) (w0 := w) w.heap.size rfl (.tmp 19) (.tmp 26) 100 97 (.int .u32 0) 4 rfl Tryd.underlying100 info97 rfl (by decide) (by omega) u7 x7_1 t167 [.int .u32 t167] (fun _ => True) (fun _ => False) rfl rfl ?aP (fun _ hk => hk.elim) ?aF ?aO ?aB ?aS ?aL ?_; (case aP => exact rfl); (case aB => exact (by repeat (first | (with_reducible first | exact HB.out | apply below_alloc | apply pw_below_drewN | apply below_drew1) | exact HB.out))); (case aF => exact (fun _ _ => trivial)); (case aO => exact (by (with_reducible repeat (first | apply Kd.R_alloc | apply Kd.R_drewN | apply Kd.R_drew)); exact HO_7.out)); (case aS => exact (below_size (by repeat (first | (with_reducible first | exact HB.out | apply below_alloc | apply pw_below_drewN | apply below_drew1) | exact HB.out)))); (case aL => have := LMc6.out; omega); intro v169 w7 ho hb hg hat; rw [← Ny168.out] at ho; have n0_ := Aside0.mk (hb); have n1_ := Aside0.mk (ho); clear HB; clear HO_7; have HB := n0_; have HO170 := n1_; clear n0_ n1_; clear ho hb hg hat))
     go_roundg k1
     case measure => have := HK1.out; omega
     case rel => exact ⟨(y168), (wrap64 (x8_1 + 1)), (by first | rfl | (simp; done) | (simp [*]; done)), H', ⟨by have := HK1.out; omega⟩, ⟨by (with_reducible repeat (first | apply Kd.R_alloc | apply Kd.R_drewN | apply Kd.R_drew)); exact HO170.out⟩, ⟨by repeat (first | (with_reducible first | exact HB.out | apply below_alloc | apply pw_below_drewN | apply below_drew1) | exact HB.out)⟩⟩
    ·rw [if_neg c6] at H
     exact absurd H (by simp)
   rw [if_neg c4] at H
   have c4b0 : decide (x8_1 < 16) = false := decide_eq_false c4
   clear c4
   obtain ⟨y171, hy171⟩ : ∃ y_ : List Int, y_ = (([] : List Int)) := ⟨_, rfl⟩
   replace H : (if y171.length + l0.length < 35184372088832 then ((some (y171 ++ l0 : List Int)).bind fun y174 => ((bourneref03_constants.f).bind fun t177 => (if y174.length + t177.length < 35184372088832 then ((some (y174 ++ t177 : List Int)).bind fun y180 => (if 12 < (y180.length : Int) then ((some (y180.set (12 : Int).toNat (Go.bits .xor .u32 (rd y180 12) ((Int.tmod (mn (wrap64 (a2 + 64)) (a1.size : Int)) 4294967296) % 4294967296)) : List Int)).bind fun y184 => (if 13 < (y180.length : Int) then ((some (y184.set (13 : Int).toNat (Go.bits .xor .u32 (rd y184 13) ((wrap64 (Int.tdiv (mn (wrap64 (a2 + 64)) (a1.size : Int)) 4294967296)) % 4294967296)) : List Int)).bind fun y186 => (if (mn (wrap64 (a2 + 64)) (a1.size : Int)) = (a1.size : Int) then (if 14 < (y180.length : Int) then (bourneref03_compress.j1 k1 l0 x7_1 (y186.set (14 : Int).toNat ((4294967295 - (rd y186 14)) % 4294967296))) else (none)) else (bourneref03_compress.j1 k1 l0 x7_1 y186))) else (none))) else (none))) else (none)))) else (none)) = some r := by first | (rw [hy171]; with_reducible exact H) | (have H2_ := (Option.bind_some _ _).symm.trans H; rw [hy171]; with_reducible exact H2_) | (have H2_ := (Option.bind_some _ _).symm.trans H; with_reducible exact H2_) | with_reducible exact H | (rw [hy171]; exact H) | exact H
   have Ny171 := Aside0.mk hy171
   clear hy171
   by_cases c8 : y171.length + l0.length < 35184372088832
   rotate_left
   ·rw [if_neg c8] at H
    exact absurd H (by simp)
   rw [if_pos c8] at H
   have LMc8 := Aside0.mk c8
   clear c8
   obtain ⟨y174, hy174⟩ : ∃ y_ : List Int, y_ = (y171 ++ l0) := ⟨_, rfl⟩
   replace H : ((bourneref03_constants.f).bind fun t177 => (if y174.length + t177.length < 35184372088832 then ((some (y174 ++ t177 : List Int)).bind fun y180 => (if 12 < (y180.length : Int) then ((some (y180.set (12 : Int).toNat (Go.bits .xor .u32 (rd y180 12) ((Int.tmod (mn (wrap64 (a2 + 64)) (a1.size : Int)) 4294967296) % 4294967296)) : List Int)).bind fun y184 => (if 13 < (y180.length : Int) then ((some (y184.set (13 : Int).toNat (Go.bits .xor .u32 (rd y184 13) ((wrap64 (Int.tdiv (mn (wrap64 (a2 + 64)) (a1.size : Int)) 4294967296)) % 4294967296)) : List Int)).bind fun y186 => (if (mn (wrap64 (a2 + 64)) (a1.size : Int)) = (a1.size : Int) then (if 14 < (y180.length : Int) then (bourneref03_compress.j1 k1 l0 x7_1 (y186.set (14 : Int).toNat ((4294967295 - (rd y186 14)) % 4294967296))) else (none)) else (bourneref03_compress.j1 k1 l0 x7_1 y186))) else (none))) else (none))) else (none))) = some r := by first | (rw [hy174]; with_reducible exact H) | (have H2_ := (Option.bind_some _ _).symm.trans H; rw [hy174]; with_reducible exact H2_) | (have H2_ := (Option.bind_some _ _).symm.trans H; with_reducible exact H2_) | with_reducible exact H | (rw [hy174]; exact H) | exact H
   have Ny174 := Aside0.mk hy174
   clear hy174
   replace H := Option.bind_eq_some_iff.mp H
   obtain ⟨t177, A90, H⟩ := H
   replace H : (if y174.length + t177.length < 35184372088832 then ((some (y174 ++ t177 : List Int)).bind fun y180 => (if 12 < (y180.length : Int) then ((some (y180.set (12 : Int).toNat (Go.bits .xor .u32 (rd y180 12) ((Int.tmod (mn (wrap64 (a2 + 64)) (a1.size : Int)) 4294967296) % 4294967296)) : List Int)).bind fun y184 => (if 13 < (y180.length : Int) then ((some (y184.set (13 : Int).toNat (Go.bits .xor .u32 (rd y184 13) ((wrap64 (Int.tdiv (mn (wrap64 (a2 + 64)) (a1.size : Int)) 4294967296)) % 4294967296)) : List Int)).bind fun y186 => (if (mn (wrap64 (a2 + 64)) (a1.size : Int)) = (a1.size : Int) then (if 14 < (y180.length : Int) then (bourneref03_compress.j1 k1 l0 x7_1 (y186.set (14 : Int).toNat ((4294967295 - (rd y186 14)) % 4294967296))) else (none)) else (bourneref03_compress.j1 k1 l0 x7_1 y186))) else (none))) else (none))) else (none)) = some r := H
   have A9 := Aside0.mk A90
   clear A90
   by_cases c10 : y174.length + t177.length < 35184372088832
   rotate_left
   ·rw [if_neg c10] at H
    exact absurd H (by simp)
   rw [if_pos c10] at H
   have LMc10 := Aside0.mk c10
   clear c10
   obtain ⟨y180, hy180⟩ : ∃ y_ : List Int, y_ = (y174 ++ t177) := ⟨_, rfl⟩
   replace H : (if 12 < (y180.length : Int) then ((some (y180.set (12 : Int).toNat (Go.bits .xor .u32 (rd y180 12) ((Int.tmod (mn (wrap64 (a2 + 64)) (a1.size : Int)) 4294967296) % 4294967296)) : List Int)).bind fun y184 => (if 13 < (y180.length : Int) then ((some (y184.set (13 : Int).toNat (Go.bits .xor .u32 (rd y184 13) ((wrap64 (Int.tdiv (mn (wrap64 (a2 + 64)) (a1.size : Int)) 4294967296)) % 4294967296)) : List Int)).bind fun y186 => (if (mn (wrap64 (a2 + 64)) (a1.size : Int)) = (a1.size : Int) then (if 14 < (y180.length : Int) then (bourneref03_compress.j1 k1 l0 x7_1 (y186.set (14 : Int).toNat ((4294967295 - (rd y186 14)) % 4294967296))) else (none)) else (bourneref03_compress.j1 k1 l0 x7_1 y186))) else (none))) else (none)) = some r := by first | (rw [hy180]; with_reducible exact H) | (have H2_ := (Option.bind_some _ _).symm.trans H; rw [hy180]; with_reducible exact H2_) | (have H2_ := (Option.bind_some _ _).symm.trans H; with_reducible exact H2_) | with_reducible exact H | (rw [hy180]; exact H) | exact H
   have Ny180 := Aside0.mk hy180
   clear hy180
   obtain ⟨ji11, hji11⟩ : ∃ j_ : Int, (mn (wrap64 (a2 + 64)) (a1.size : Int)) = j_ := ⟨_, rfl⟩
   replace H : (if 12 < (y180.length : Int) then ((some (y180.set (12 : Int).toNat (Go.bits .xor .u32 (rd y180 12) ((Int.tmod (ji11) 4294967296) % 4294967296)) : List Int)).bind fun y184 => (if 13 < (y180.length : Int) then ((some (y184.set (13 : Int).toNat (Go.bits .xor .u32 (rd y184 13) ((wrap64 (Int.tdiv (ji11) 4294967296)) % 4294967296)) : List Int)).bind fun y186 => (if (ji11) = (a1.size : Int) then (if 14 < (y180.length : Int) then (bourneref03_compress.j1 k1 l0 x7_1 (y186.set (14 : Int).toNat ((4294967295 - (rd y186 14)) % 4294967296))) else (none)) else (bourneref03_compress.j1 k1 l0 x7_1 y186))) else (none))) else (none)) = some r := by first | (rw [hji11] at H; exact H) | (simp only [hji11] at H ⊢; exact H)
   (try rw [hji11] at A9)
   have hji11_ : (if (a1.size : Int) < (wrap64 (a2 + 64)) then (a1.size : Int) else (wrap64 (a2 + 64))) = ji11 := hji11
   by_cases c12 : 12 < (y180.length : Int)
   rotate_left
   ·rw [if_neg c12] at H
    exact absurd H (by simp)
   rw [if_pos c12] at H
   have c12b0 : decide (12 < (y180.length : Int)) = true := decide_eq_true c12
   have c12b1 : decide (12 < y180.length) = true := decide_eq_true (by omega)
   clear c12
   obtain ⟨y184, hy184⟩ : ∃ y_ : List Int, y_ = (y180.set (12 : Int).toNat (Go.bits .xor .u32 (rd y180 12) ((Int.tmod (ji11) 4294967296) % 4294967296))) := ⟨_, rfl⟩
   replace H : (if 13 < (y180.length : Int) then ((some (y184.set (13 : Int).toNat (Go.bits .xor .u32 (rd y184 13) ((wrap64 (Int.tdiv (ji11) 4294967296)) % 4294967296)) : List Int)).bind fun y186 => (if (ji11) = (a1.size : Int) then (if 14 < (y180.length : Int) then (bourneref03_compress.j1 k1 l0 x7_1 (y186.set (14 : Int).toNat ((4294967295 - (rd y186 14)) % 4294967296))) else (none)) else (bourneref03_compress.j1 k1 l0 x7_1 y186))) else (none)) = some r := by first | (rw [hy184]; with_reducible exact H) | (have H2_ := (Option.bind_some _ _).symm.trans H; rw [hy184]; with_reducible exact H2_) | (have H2_ := (Option.bind_some _ _).symm.trans H; with_reducible exact H2_) | with_reducible exact H | (rw [hy184]; exact H) | exact H
   have Ny184 := Aside0.mk hy184
   clear hy184
   by_cases c14 : 13 < (y180.length : Int)
   rotate_left
   ·rw [if_neg c14] at H
    exact absurd H (by simp)
   rw [if_pos c14] at H
   have c14b0 : decide (13 < (y180.length : Int)) = true := decide_eq_true c14
   have c14b1 : decide (13 < y180.length) = true := decide_eq_true (by omega)
   clear c14
   obtain ⟨y186, hy186⟩ : ∃ y_ : List Int, y_ = (y184.set (13 : Int).toNat (Go.bits .xor .u32 (rd y184 13) ((wrap64 (Int.tdiv (ji11) 4294967296)) % 4294967296))) := ⟨_, rfl⟩
   replace H : (if (ji11) = (a1.size : Int) then (if 14 < (y180.length : Int) then (bourneref03_compress.j1 k1 l0 x7_1 (y186.set (14 : Int).toNat ((4294967295 - (rd y186 14)) % 4294967296))) else (none)) else (bourneref03_compress.j1 k1 l0 x7_1 y186)) = some r := by first | (rw [hy186]; with_reducible exact H) | (have H2_ := (Option.bind_some _ _).symm.trans H; rw [hy186]; with_reducible exact H2_) | (have H2_ := (Option.bind_some _ _).symm.trans H; with_reducible exact H2_) | with_reducible exact H | (rw [hy186]; exact H) | exact H
   have Ny186 := Aside0.mk hy186
   clear hy186
   have HC16 := Aside0.mk H
   clear H
   go_upto_if 60 with (first | ((with_reducible refine gate_dst (N := 28) rfl ?_); refine Kd.R_lit (Kd.int .u32) _ 97 ?hg (N := 28) ?hd (xs := ([] : List Int)) (inner := []) (ok := fun _ => True) (okp := fun _ => True) ?hr ?hp (fun _ hk => hk) trivial (Below.refl _ _) (Nat.le_refl _) (by simp) ?_; (case hd => rfl); (case hg => rfl); (case hr => first | (go_simp; done) | (go_simp; rfl)); (case hp => exact (Reps.none _ _)); intro v172 w17 ho18 hb hg_ hnew_; clear hg_ hnew_; (first | rw [← Ny171.out] at ho18 | (simp only [Int.reduceToNat] at ho18; rw [← Ny171.out] at ho18)); have n0_ := Aside0.mk (Kd.R_elder' (by (with_reducible repeat (first | apply Kd.R_alloc | apply Kd.R_drewN | apply Kd.R_drew)); exact HO_7.out) (Kd.R_base ho18) hb); have n1_ := Aside0.mk (Kd.R_lower (Kd.R_new' ho18 (Kd.R_lt (by (with_reducible repeat (first | apply Kd.R_alloc | apply Kd.R_drewN | apply Kd.R_drew)); exact HO_7.out))) (below_size (by repeat (first | (with_reducible first | exact HB.out | apply below_alloc | apply pw_below_drewN | apply below_drew1) | exact HB.out)))); have n2_ := Aside0.mk (below_step (by repeat (first | (with_reducible first | exact HB.out | apply below_alloc | apply pw_below_drewN | apply below_drew1) | exact HB.out)) hb); clear HO_7; clear HB; have HO_7 := n0_; have HO173 := n1_; have HB := n2_; clear n0_ n1_ n2_; clear hb ho18) | ((with_reducible refine gate_builtin (b := .append) (xs := #[.tmp 28, .tmp 29]) rfl ?_); at_builtin; refine Kd.R_append_rows (Kd.int .u32) (w0 := w) w.heap.size rfl (.tmp 28) (.tmp 29) 100 97 (.int .u32 0) 4 rfl Tryd.underlying100 info97 rfl (by decide) (by omega) v172 y171 l0 _ _ _ (fun k_ => some k_ ≠ (u7 : Value).ownBlock) (fun _ => False) rfl rfl ?aO ?aR (fun _ _ h => h) (fun _ h => h.elim) ?aF ?aB ?aS ?aL ?_; (case aR => repeat (first | exact (Kd.C_below HR0.out HB.out) | (with_reducible refine Kd.C_alloc ?_ _) | (with_reducible refine Kd.C_drewN ?_ _) | (with_reducible refine Kd.C_drew ?_))); (case aB => exact (by repeat (first | (with_reducible first | exact HB.out | apply below_alloc | apply pw_below_drewN | apply below_drew1) | exact HB.out))); (case aF => exact (fun k_ hk => Kd.fresh' (Kd.R_lt (by (with_reducible repeat (first | apply Kd.R_alloc | apply Kd.R_drewN | apply Kd.R_drew)); exact HO_7.out)) k_ hk)); (case aO => exact (by (with_reducible repeat (first | apply Kd.R_alloc | apply Kd.R_drewN | apply Kd.R_drew)); exact Kd.R_mono HO173.out (fun _ hk => hk.2))); (case aS => exact (below_size (by repeat (first | (with_reducible first | exact HB.out | apply below_alloc | apply pw_below_drewN | apply below_drew1) | exact HB.out)))); (case aL => have := LMc8.out; omega); intro v175 w19 ho hb hg hat; rw [← Ny174.out] at ho; have n0_ := Aside0.mk (Kd.R_after (ok := (fun _ => True)) (by (with_reducible repeat (first | apply Kd.R_alloc | apply Kd.R_drewN | apply Kd.R_drew)); exact HO_7.out) hg hat); have n1_ := Aside0.mk (hb); have n2_ := Aside0.mk (ho); clear HO_7; clear HB; clear HO173; have HO_7 := n0_; have HB := n1_; have HO176 := n2_; clear n0_ n1_ n2_; clear ho hb hg hat) | ((with_reducible refine gate_callee (f := 97) rfl ?_); refine goesL_ (some 32) rfl rfl Tryd.func97 (by kernel_rfl) rfl #[] rfl (by (try simp only [List.map_toArray, List.map_cons, List.map_nil]); first | done | rfl | (simp only [List.length_drop, List.length_take]; rfl)) ?_; (with_reducible refine (bourneref03_constants.calls  t177 _ A9.out).mono ?_); rintro e w20 ⟨v178, rfl, ho0, hb⟩; refine ⟨_, rfl, ?_⟩; have n0_ := Aside0.mk (Kd.R_elder' (by (with_reducible repeat (first | apply Kd.R_alloc | apply Kd.R_drewN | apply Kd.R_drew)); exact HO_7.out) (Kd.R_base ho0) hb); have n1_ := Aside0.mk (Kd.R_elder' (by (with_reducible repeat (first | apply Kd.R_alloc | apply Kd.R_drewN | apply Kd.R_drew)); exact HO176.out) (Kd.R_base ho0) hb); have n2_ := Aside0.mk (Kd.R_lower (Kd.R_new' (Kd.R_new' ho0 (Kd.R_lt (by (with_reducible repeat (first | apply Kd.R_alloc | apply Kd.R_drewN | apply Kd.R_drew)); exact HO_7.out))) (Kd.R_lt (by (with_reducible repeat (first | apply Kd.R_alloc | apply Kd.R_drewN | apply Kd.R_drew)); exact HO176.out))) (below_size (by repeat (first | (with_reducible first | exact HB.out | apply below_alloc | apply pw_below_drewN | apply below_drew1) | exact HB.out)))); have n3_ := Aside0.mk (below_step (by repeat (first | (with_reducible first | exact HB.out | apply below_alloc | apply pw_below_drewN | apply below_drew1) | exact HB.out)) hb); clear HO_7; clear HO176; clear HB; have HO_7 := n0_; have HO176 := n1_; have HO179 := n2_; have HB := n3_; clear n0_ n1_ n2_ n3_; (try clear hb); (try clear hb2); (try clear hk); (try clear hi); (try clear ho0); obtain ⟨Ao22, co22, eo22⟩ := Kd.R_slice HO179.out; subst eo22) | ((with_reducible refine gate_builtin (b := .append) (xs := #[.tmp 31, .tmp 32]) rfl ?_); at_builtin; refine Kd.R_append_rows (Kd.int .u32) (w0 := w) w.heap.size rfl (.tmp 31) (.tmp 32) 100 97 (.int .u32 0) 4 rfl Tryd.underlying100 info97 rfl (by decide) (by omega) v175 y174 t177 _ _ _ (fun k_ => some k_ ≠ (u7 : Value).ownBlock ∧ some k_ ≠ (.slice Ao22 t177.length co22 : Value).ownBlock) (fun _ => False) rfl rfl ?aO ?aR (fun _ _ h => h) (fun _ h => h.elim) ?aF ?aB ?aS ?aL ?_; (case aR => repeat (first | exact (Kd.R_reads' HO179.out).2.2 | (with_reducible refine Kd.C_alloc ?_ _) | (with_reducible refine Kd.C_drewN ?_ _) | (with_reducible refine Kd.C_drew ?_))); (case aB => exact (by repeat (first | (with_reducible first | exact HB.out | apply below_alloc | apply pw_below_drewN | apply below_drew1) | exact HB.out))); (case aF => exact (fun k_ hk => ⟨Kd.fresh' (Kd.R_lt (by (with_reducible repeat (first | apply Kd.R_alloc | apply Kd.R_drewN | apply Kd.R_drew)); exact HO_7.out)) k_ hk, Kd.fresh' (Kd.R_lt (by (with_reducible repeat (first | apply Kd.R_alloc | apply Kd.R_drewN | apply Kd.R_drew)); exact HO179.out)) k_ hk⟩)); (case aO => exact (by (with_reducible repeat (first | apply Kd.R_alloc | apply Kd.R_drewN | apply Kd.R_drew)); exact HO176.out)); (case aS => exact (below_size (by repeat (first | (with_reducible first | exact HB.out | apply below_alloc | apply pw_below_drewN | apply below_drew1) | exact HB.out)))); (case aL => have := LMc10.out; omega); intro v181 w21 ho hb hg hat; rw [← Ny180.out] at ho; have n0_ := Aside0.mk (Kd.R_after (ok := (fun k_ => some k_ ≠ (.slice Ao22 t177.length co22 : Value).ownBlock)) (by (with_reducible repeat (first | apply Kd.R_alloc | apply Kd.R_drewN | apply Kd.R_drew)); exact Kd.R_mono HO_7.out (fun _ hk => ⟨hk.2, hk.1.2⟩)) hg hat); have n1_ := Aside0.mk (Kd.R_after (ok := (fun k_ => some k_ ≠ (u7 : Value).ownBlock)) (by (with_reducible repeat (first | apply Kd.R_alloc | apply Kd.R_drewN | apply Kd.R_drew)); exact Kd.R_mono HO179.out (fun _ hk => ⟨hk.1.2, hk.2⟩)) hg hat); have n2_ := Aside0.mk (hb); have n3_ := Aside0.mk (ho); clear HO_7; clear HO179; clear HB; clear HO176; have HO_7 := n0_; have HO179 := n1_; have HB := n2_; have HO182 := n3_; clear n0_ n1_ n2_ n3_; clear ho hb hg hat; obtain ⟨Ao23, co23, eo23⟩ := Kd.R_slice HO182.out; subst eo23; have p183 : 0 ≤ (12 : Int) := (by omega); have q183 : 12 < (y180.length : Int) := of_decide_eq_true (by first | (with_reducible assumption) | assumption); obtain ⟨ad183, e183, hx183_0⟩ := Kd.at_int (Kd.R_reads' HO182.out).2.2 12 p183 q183; cases e183; (try simp only [show (12 : Int).toNat = 12 from rfl, Nat.reduceMul, Nat.reduceEqDiff, Go.Addr.add, ↓reduceIte] at hx183_0); have qi183 : (12 < y180.length) = True := eq_true (by omega); (try rw [show ((12 : Int)).toNat = 12 from rfl] at hx183_0); replace p183 := eq_true p183; replace q183 := eq_true q183; have p13 : 0 ≤ (12 : Int) := (by omega); have q13 : (12 : Int) < ((y180.length : Int) : Int) := of_decide_eq_true (by first | (with_reducible assumption) | assumption); have qi13 : (12 < y180.length) = True := eq_true (by omega); obtain ⟨go13, co13, eo13, gb13, gl13, cl13, HG13⟩ := Kd.R_form HO182.out (by omega); (first | cases eo13 | (injection eo13 with ea_ en_ ec_; (first | subst ea_ | (injection ea_ with ea_; subst ea_)); subst ec_; clear en_)); have GB13 := Aside0.mk gb13; have GG13 := Aside0.mk HG13; clear gb13 gl13 HG13; (first | simp only [add_plain] at hx183_0 | skip); obtain ⟨hx13_0, hf13_0⟩ := Kd.R_celln 0 HO182.out (12 : Int) p13 q13; (try rw [show ((12 : Int)).toNat = 12 from rfl] at hx13_0); (try simp only [Nat.reduceMul, Nat.zero_mul, Nat.zero_add, Nat.reduceAdd] at hx13_0); (try rw [show ((12 : Int)).toNat = 12 from rfl] at hf13_0); (try simp only [Nat.reduceMul, Nat.zero_mul, Nat.zero_add, Nat.reduceAdd] at hf13_0); replace p13 := eq_true p13; replace q13 := eq_true q13; obtain ⟨hy24_, hz24_⟩ := Kd.R_celln 0 HO182.out (12 : Int) (by omega) (of_decide_eq_true (by first | (with_reducible assumption) | assumption)); (try simp only [Int.reduceToNat, Int.toNat_zero, Int.toNat_ofNat, Nat.reduceMul, Nat.zero_mul, Nat.zero_add] at hy24_ hz24_); (try rw [show ((12 : Int)).toNat = 12 from rfl] at hy24_); (try rw [show ((12 : Int)).toNat = 12 from rfl] at hz24_); have HP24 := Kd.R_putg HO182.out (12 : Int) (Go.bits .xor .u32 (rd y180 12) ((Int.tmod (ji11) 4294967296) % 4294967296))) | ((with_reducible refine gate_store (t := 97) (p := 47) rfl ?_); refine store_event (t := 97) (p := 47) (v := ?vo_w25) (w1 := (w21.setCell ⟨go13, (12 : Int).toNat, none⟩ (.int .u32 (Go.bits .xor .u32 (rd y180 12) ((Int.tmod (ji11) 4294967296) % 4294967296))))) ?hg ?ho ?hn ?hr ?_; (case ho => rfl); (case hg => rfl); (case hn => rfl); (case hr => first | (go_simp; done) | (go_simp; rfl)); intro w25 hw; have hg : w21.grownBy w25 (some go13) := (by rw [hw]; exact HP24.2); have hp_ : Kd.R (Kd.int .u32) 97 w25 w.heap.size (fun k_ => some k_ ≠ (u7 : Value).ownBlock ∧ some k_ ≠ (.slice Ao22 t177.length co22 : Value).ownBlock) (.slice (some ⟨go13, 0, none⟩) y180.length co23) y184 := (by rw [hw, Ny184.out]; exact HP24.1); clear HP24; have n0_ := Aside0.mk (Kd.R_after (v := (.slice (some ⟨go13, 0, none⟩) y180.length co23)) (v1 := (.slice (some ⟨go13, 0, none⟩) y180.length co23)) (ok := (fun k_ => some k_ ≠ (.slice Ao22 t177.length co22 : Value).ownBlock)) (by (with_reducible repeat (first | apply Kd.R_alloc | apply Kd.R_drewN | apply Kd.R_drew)); exact HO_7.out) hg (.inl rfl)); have n1_ := Aside0.mk (Kd.R_after (v := (.slice (some ⟨go13, 0, none⟩) y180.length co23)) (v1 := (.slice (some ⟨go13, 0, none⟩) y180.length co23)) (ok := (fun k_ => some k_ ≠ (u7 : Value).ownBlock)) (by (with_reducible repeat (first | apply Kd.R_alloc | apply Kd.R_drewN | apply Kd.R_drew)); exact HO179.out) hg (.inl rfl)); have n2_ := Aside0.mk (hp_); have n3_ := Aside0.mk ((by rw [hw]; exact below_set (HB.out) GB13.out : Below w.heap.size w w25)); clear HO_7; clear HO179; clear HO182; clear HB; have HO_7 := n0_; have HO179 := n1_; have HO182 := n2_; have HB := n3_; clear n0_ n1_ n2_ n3_; clear hg hw hp_; have p185 : 0 ≤ (13 : Int) := (by omega); have q185 : 13 < (y184.length : Int) := (by have h_ : (13 : Int) < ((y180.length : Int) : Int) := of_decide_eq_true (by first | (with_reducible assumption) | assumption); first | (have e_ := (Kd.R_reads' HO182.out).1; omega) | simpa only [Ny184.out, List.length_set] using h_); have ql185 : ((13 : Int) < ((y180.length : Int) : Int)) = True := eq_true (of_decide_eq_true (by first | (with_reducible assumption) | assumption)); (try have qn185 : (13 < y180.length) = True := eq_true (by have h_ : (13 : Int) < ((y180.length : Int) : Int) := of_decide_eq_true (by first | (with_reducible assumption) | assumption); omega)); obtain ⟨ad185, e185, hx185_0⟩ := Kd.at_int (Kd.R_reads' HO182.out).2.2 13 p185 q185; obtain rfl : (⟨go13, 0, none⟩ : Addr) = ad185 := (by injection e185); (first | simp only [add_plain] at hx185_0 | simp only [add_at] at hx185_0 | simp only [Addr.add, Nat.zero_add] at hx185_0 | skip); have qi185 : (13 < y184.length) = True := eq_true (by omega); (try rw [show ((13 : Int)).toNat = 13 from rfl] at hx185_0); replace p185 := eq_true p185; replace q185 := eq_true q185; have p15 : 0 ≤ (13 : Int) := (by omega); have q15 : (13 : Int) < ((y180.length : Int) : Int) := of_decide_eq_true (by first | (with_reducible assumption) | assumption); have qi15 : (13 < y180.length) = True := eq_true (by omega); obtain ⟨hx15_0, hf15_0⟩ := Kd.R_celln 0 HO182.out (13 : Int) p15 q15; (try rw [show ((13 : Int)).toNat = 13 from rfl] at hx15_0); (try simp only [Nat.reduceMul, Nat.zero_mul, Nat.zero_add, Nat.reduceAdd] at hx15_0); (try rw [show ((13 : Int)).toNat = 13 from rfl] at hf15_0); (try simp only [Nat.reduceMul, Nat.zero_mul, Nat.zero_add, Nat.reduceAdd] at hf15_0); replace p15 := eq_true p15; replace q15 := eq_true q15; obtain ⟨hy26_, hz26_⟩ := Kd.R_celln 0 HO182.out (13 : Int) (by omega) (of_decide_eq_true (by first | (with_reducible assumption) | assumption)); (try simp only [Int.reduceToNat, Int.toNat_zero, Int.toNat_ofNat, Nat.reduceMul, Nat.zero_mul, Nat.zero_add] at hy26_ hz26_); (try rw [show ((13 : Int)).toNat = 13 from rfl] at hy26_); (try rw [show ((13 : Int)).toNat = 13 from rfl] at hz26_); have HP26 := Kd.R_putg HO182.out (13 : Int) (Go.bits .xor .u32 (rd y184 13) ((wrap64 (Int.tdiv (ji11) 4294967296)) % 4294967296))) | ((with_reducible refine gate_store (t := 97) (p := 56) rfl ?_); refine store_event (t := 97) (p := 56) (v := ?vo_w27) (w1 := (w25.setCell ⟨go13, (13 : Int).toNat, none⟩ (.int .u32 (Go.bits .xor .u32 (rd y184 13) ((wrap64 (Int.tdiv (ji11) 4294967296)) % 4294967296))))) ?hg ?ho ?hn ?hr ?_; (case ho => rfl); (case hg => rfl); (case hn => rfl); (case hr => first | (go_simp; done) | (go_simp; rfl)); intro w27 hw; have hg : w25.grownBy w27 (some go13) := (by rw [hw]; exact HP26.2); have hp_ : Kd.R (Kd.int .u32) 97 w27 w.heap.size (fun k_ => some k_ ≠ (u7 : Value).ownBlock ∧ some k_ ≠ (.slice Ao22 t177.length co22 : Value).ownBlock) (.slice (some ⟨go13, 0, none⟩) y180.length co23) y186 := (by rw [hw, Ny186.out]; exact HP26.1); clear HP26; have n0_ := Aside0.mk (Kd.R_after (v := (.slice (some ⟨go13, 0, none⟩) y180.length co23)) (v1 := (.slice (some ⟨go13, 0, none⟩) y180.length co23)) (ok := (fun k_ => some k_ ≠ (.slice Ao22 t177.length co22 : Value).ownBlock)) (by (with_reducible repeat (first | apply Kd.R_alloc | apply Kd.R_drewN | apply Kd.R_drew)); exact HO_7.out) hg (.inl rfl)); have n1_ := Aside0.mk (Kd.R_after (v := (.slice (some ⟨go13, 0, none⟩) y180.length co23)) (v1 := (.slice (some ⟨go13, 0, none⟩) y180.length co23)) (ok := (fun k_ => some k_ ≠ (u7 : Value).ownBlock)) (by (with_reducible repeat (first | apply Kd.R_alloc | apply Kd.R_drewN | apply Kd.R_drew)); exact HO179.out) hg (.inl rfl)); have n2_ := Aside0.mk (hp_); have n3_ := Aside0.mk ((by rw [hw]; exact below_set (HB.out) GB13.out : Below w.heap.size w w27)); clear HO_7; clear HO179; clear HO182; clear HB; have HO_7 := n0_; have HO179 := n1_; have HO182 := n2_; have HB := n3_; clear n0_ n1_ n2_ n3_; clear hg hw hp_))
   (try simp only [Act.put, List.setIfInBounds_toArray, List.set_cons_zero, List.set_cons_succ])
   go_cut [] (fun wc => ∃ (kq : Nat) (x9_15 : List Int), Aside0 (bourneref03_compress.j1 kq l0 x7_1 x9_15 = some r) ∧ Aside0 (kq ≤ k1) ∧ Aside0 (Kd.R (Kd.int .u32) 97 wc w.heap.size (fun k_ => some k_ ≠ ((.slice (some ⟨go13, 0, none⟩) y180.length co23) : Value).ownBlock) u7 x7_1) ∧ Aside0 (Kd.R (Kd.int .u32) 97 wc w.heap.size (fun k_ => some k_ ≠ (u7 : Value).ownBlock) (.slice (some ⟨go13, 0, none⟩) y180.length co23) x9_15) ∧ Aside0 (Below w.heap.size w wc))
   case first =>
    have H := HC16.out
    clear HC16
    by_cases c28 : (ji11) = (a1.size : Int)
    rotate_left
    ·rw [if_neg c28] at H
     have c28b0 : ((ji11) == (a1.size : Int)) = false := beq_eq_false_iff_ne.mpr c28
     have c28b1 : ((ji11) != (a1.size : Int)) = true := bne_iff_ne.mpr c28
     (first | rw [c28b0] | (simp only [i64_w, i32_w]; rw [c28b0]) | skip)
     have H' := Aside0.mk H
     clear H
     go_wp2
     go_meet
     case rel => exact ⟨_, (y186), H', ⟨by have := HK1.out; first | omega | exact Nat.le_refl _⟩, ⟨by (with_reducible repeat (first | apply Kd.R_alloc | apply Kd.R_drewN | apply Kd.R_drew)); exact Kd.R_mono HO_7.out (fun _ hk => hk.2)⟩, ⟨by (with_reducible repeat (first | apply Kd.R_alloc | apply Kd.R_drewN | apply Kd.R_drew)); exact Kd.R_mono HO182.out (fun _ hk => hk.1)⟩, ⟨by repeat (first | (with_reducible first | exact HB.out | apply below_alloc | apply pw_below_drewN | apply below_drew1) | exact HB.out)⟩⟩
    rw [if_pos c28] at H
    have c28b0 : ((ji11) == (a1.size : Int)) = true := beq_iff_eq.mpr c28
    have c28b1 : ((ji11) != (a1.size : Int)) = false := bne_eq_false_iff_eq.mpr c28
    clear c28
    (first | rw [c28b0] | (simp only [i64_w, i32_w]; rw [c28b0]) | skip)
    by_cases c29 : 14 < (y180.length : Int)
    rotate_left
    ·rw [if_neg c29] at H
     exact absurd H (by simp)
    rw [if_pos c29] at H
    have c29b0 : decide (14 < (y180.length : Int)) = true := decide_eq_true c29
    have c29b1 : decide (14 < y180.length) = true := decide_eq_true (by omega)
    clear c29
    obtain ⟨y188, hy188⟩ : ∃ y_ : List Int, y_ = (y186.set (14 : Int).toNat ((4294967295 - (rd y186 14)) % 4294967296)) := ⟨_, rfl⟩
    replace H : (bourneref03_compress.j1 k1 l0 x7_1 y188) = some r := by first | (rw [hy188]; with_reducible exact H) | (have H2_ := (Option.bind_some _ _).symm.trans H; rw [hy188]; with_reducible exact H2_) | (have H2_ := (Option.bind_some _ _).symm.trans H; with_reducible exact H2_) | with_reducible exact H | (rw [hy188]; exact H) | exact H
    have Ny188 := Aside0.mk hy188
    clear hy188
    have H' := Aside0.mk H
    clear H
    have p187 : 0 ≤ (14 : Int) := (by omega)
    have q187 : 14 < (y186.length : Int) := (by have h_ : (14 : Int) < ((y180.length : Int) : Int) := of_decide_eq_true (by first | (with_reducible assumption) | assumption); first | (have e_ := (Kd.R_reads' HO182.out).1; omega) | simpa only [Ny184.out, Ny186.out, List.length_set] using h_)
    have ql187 : ((14 : Int) < ((y180.length : Int) : Int)) = True := eq_true (of_decide_eq_true (by first | (with_reducible assumption) | assumption))
    (try have qn187 : (14 < y180.length) = True := eq_true (by have h_ : (14 : Int) < ((y180.length : Int) : Int) := of_decide_eq_true (by first | (with_reducible assumption) | assumption); omega))
    obtain ⟨ad187, e187, hx187_0⟩ := Kd.at_int (Kd.R_reads' HO182.out).2.2 14 p187 q187
    obtain rfl : (⟨go13, 0, none⟩ : Addr) = ad187 := (by injection e187)
    (first | simp only [add_plain] at hx187_0 | simp only [add_at] at hx187_0 | simp only [Addr.add, Nat.zero_add] at hx187_0 | skip)
    have qi187 : (14 < y186.length) = True := eq_true (by omega)
    (try rw [show ((14 : Int)).toNat = 14 from rfl] at hx187_0)
    replace p187 := eq_true p187
    replace q187 := eq_true q187
    have p30 : 0 ≤ (14 : Int) := (by omega)
    have q30 : (14 : Int) < ((y180.length : Int) : Int) := of_decide_eq_true (by first | (with_reducible assumption) | assumption)
    have qi30 : (14 < y180.length) = True := eq_true (by omega)
    obtain ⟨hx30_0, hf30_0⟩ := Kd.R_celln 0 HO182.out (14 : Int) p30 q30
    (try rw [show ((14 : Int)).toNat = 14 from rfl] at hx30_0)
    (try simp only [Nat.reduceMul, Nat.zero_mul, Nat.zero_add, Nat.reduceAdd] at hx30_0)
    (try rw [show ((14 : Int)).toNat = 14 from rfl] at hf30_0)
    (try simp only [Nat.reduceMul, Nat.zero_mul, Nat.zero_add, Nat.reduceAdd] at hf30_0)
    replace p30 := eq_true p30
    replace q30 := eq_true q30
    have HP31 := Kd.R_putg HO182.out (14 : Int) ((4294967295 - (rd y186 14)) % 4294967296)
    go_wp2_with (first | ((with_reducible refine gate_store (t := 97) (p := 66) rfl ?_); refine store_event (t := 97) (p := 66) (v := ?vo_w32) (w1 := (w27.setCell ⟨go13, (14 : Int).toNat, none⟩ (.int .u32 ((4294967295 - (rd y186 14)) % 4294967296)))) ?hg ?ho ?hn ?hr ?_; (case ho => rfl); (case hg => rfl); (case hn => rfl); (case hr => first | (go_simp; done) | (go_simp; rfl)); intro w32 hw; have hg : w27.grownBy w32 (some go13) := (by rw [hw]; exact HP31.2); have hp_ : Kd.R (Kd.int .u32) 97 w32 w.heap.size (fun k_ => some k_ ≠ (u7 : Value).ownBlock ∧ some k_ ≠ (.slice Ao22 t177.length co22 : Value).ownBlock) (.slice (some ⟨go13, 0, none⟩) y180.length co23) y188 := (by rw [hw, Ny188.out]; exact HP31.1); clear HP31; have n0_ := Aside0.mk (Kd.R_after (v := (.slice (some ⟨go13, 0, none⟩) y180.length co23)) (v1 := (.slice (some ⟨go13, 0, none⟩) y180.length co23)) (ok := (fun k_ => some k_ ≠ (.slice Ao22 t177.length co22 : Value).ownBlock)) (by (with_reducible repeat (first | apply Kd.R_alloc | apply Kd.R_drewN | apply Kd.R_drew)); exact HO_7.out) hg (.inl rfl)); have n1_ := Aside0.mk (Kd.R_after (v := (.slice (some ⟨go13, 0, none⟩) y180.length co23)) (v1 := (.slice (some ⟨go13, 0, none⟩) y180.length co23)) (ok := (fun k_ => some k_ ≠ (u7 : Value).ownBlock)) (by (with_reducible repeat (first | apply Kd.R_alloc | apply Kd.R_drewN | apply Kd.R_drew)); exact HO179.out) hg (.inl rfl)); have n2_ := Aside0.mk (hp_); have n3_ := Aside0.mk ((by rw [hw]; exact below_set (HB.out) GB13.out : Below w.heap.size w w32)); clear HO_7; clear HO179; clear HO182; clear HB; have HO_7 := n0_; have HO179 := n1_; have HO182 := n2_; have HB := n3_; clear n0_ n1_ n2_ n3_; clear hg hw hp_))
    go_meet
    case rel => exact ⟨_, (y188), H', ⟨by have := HK1.out; first | omega | exact Nat.le_refl _⟩, ⟨by (with_reducible repeat (first | apply Kd.R_alloc | apply Kd.R_drewN | apply Kd.R_drew)); exact Kd.R_mono HO_7.out (fun _ hk => hk.2)⟩, ⟨by (with_reducible repeat (first | apply Kd.R_alloc | apply Kd.R_drewN | apply Kd.R_drew)); exact Kd.R_mono HO182.out (fun _ hk => hk.1)⟩, ⟨by repeat (first | (with_reducible first | exact HB.out | apply below_alloc | apply pw_below_drewN | apply below_drew1) | exact HB.out)⟩⟩
   case rest =>
    clear HC16
    try clear c1
    try clear p1
    try clear q1
    try clear hx1
    try clear qi1
    try clear c2
    try clear p2
    try clear p3
    try clear q3
    try clear hx3
    try clear qi3
    try clear hf3
    try clear c4
    try clear c4b0
    try clear c6
    try clear p6
    try clear c8
    try clear c9
    try clear c10
    try clear c12
    try clear c12b0
    try clear c12b1
    try clear p13
    try clear q13
    try clear hx13
    try clear qi13
    try clear hf13
    try clear c14
    try clear c14b0
    try clear c14b1
    try clear p15
    try clear q15
    try clear hx15
    try clear qi15
    try clear hf15
    try clear p18
    try clear q18
    try clear hx18
    try clear qi18
    try clear c28
    try clear c28b0
    try clear c28b1
    try clear c29
    try clear c29b0
    try clear c29b1
    try clear p30
    try clear q30
    try clear hx30
    try clear qi30
    try clear hf30
    try clear hx13_0
    try clear hx15_0
    try clear hx183_0
    try clear hx185_0
    try clear hx187_0
    try clear hx30_0
    try clear p13
    try clear p15
    try clear p183
    try clear p185
    try clear p187
    try clear p2
    try clear p30
    try clear q13
    try clear q15
    try clear q183
    try clear q185
    try clear q187
    try clear q30
    obtain ⟨kq, x9_15, HA, HJ15, HO_7, HO_9, HB⟩ := hcut
    have hl9_15 := (Kd.R_reads' HO_9.out).1
    rw [hl9_15] at HO_9
    (try simp only [hl9_15])
    (try simp only [hl9_15] at HO_7)
    cases kq with
    | zero => exact absurd HA.out (by simp [bourneref03_compress.j1])
    | succ kj15 =>
     have H := HA.out
     clear HA
     simp only [bourneref03_compress.j1] at H
     have H' := Aside0.mk H
     clear H
     go_wp2
     go_loopg [11] kj15 (fun kq v11 w' => ∃ (x9_3 : List Int) (x11_3 : Int), v11 = .int .i64 x11_3 ∧ Aside0 (bourneref03_compress.l1 kq l0 x7_1 x9_3 x11_3 = some r) ∧ Aside0 (kq ≤ kj15) ∧ Aside0 (Kd.R (Kd.int .u32) 97 w' w.heap.size (fun k_ => some k_ ≠ ((.slice (some ⟨go13, 0, none⟩) x9_15.length co23) : Value).ownBlock) u7 x7_1) ∧ Aside0 (Kd.R (Kd.int .u32) 97 w' w.heap.size (fun k_ => some k_ ≠ (u7 : Value).ownBlock) (.slice (some ⟨go13, 0, none⟩) x9_15.length co23) x9_3) ∧ Aside0 (Below w.heap.size w w'))
     case atStart => exact ⟨(x9_15), (0), (by first | rfl | (simp; done) | (simp [*]; done)), H', ⟨Nat.le_refl _⟩, ⟨by (try simp only [hl9_15]); (with_reducible repeat (first | apply Kd.R_alloc | apply Kd.R_drewN | apply Kd.R_drew)); exact HO_7.out⟩, ⟨by (try simp only [hl9_15]); (with_reducible repeat (first | apply Kd.R_alloc | apply Kd.R_drewN | apply Kd.R_drew)); exact HO_9.out⟩, ⟨by repeat (first | (with_reducible first | exact HB.out | apply below_alloc | apply pw_below_drewN | apply below_drew1) | exact HB.out)⟩⟩
     case round =>
      clear H'
      try clear c1
      try clear p1
      try clear q1
      try clear hx1
      try clear qi1
      try clear c2
      try clear p2
      try clear p3
      try clear q3
      try clear hx3
      try clear qi3
      try clear hf3
      try clear c4
      try clear c4b0
      try clear c6
      try clear p6
      try clear c8
      try clear c9
      try clear c10
      try clear c12
      try clear c12b0
      try clear c12b1
      try clear p13
      try clear q13
      try clear hx13
      try clear qi13
      try clear hf13
      try clear c14
      try clear c14b0
      try clear c14b1
      try clear p15
      try clear q15
      try clear hx15
      try clear qi15
      try clear hf15
      try clear p18
      try clear q18
      try clear hx18
      try clear qi18
      try clear c28
      try clear c28b0
      try clear c28b1
      try clear c29
      try clear c29b0
      try clear c29b1
      try clear p30
      try clear q30
      try clear hx30
      try clear qi30
      try clear hf30
      try clear hx13_0
      try clear hx15_0
      try clear hx183_0
      try clear hx185_0
      try clear hx187_0
      try clear hx30_0
      try clear p1
      try clear p13
      try clear p15
      try clear p18
      try clear p183
      try clear p185
      try clear p187
      try clear p2
      try clear p3
      try clear p30
      try clear p6
      try clear q1
      try clear q13
      try clear q15
      try clear q18
      try clear q183
      try clear q185
      try clear q187
      try clear q3
      try clear q30
      obtain ⟨x9_3, x11_3, rfl, HA, HK3, HO_7, HO_9, HB⟩ := hrel
      have hl9_3 := (Kd.R_reads' HO_9.out).1
      rw [hl9_3] at HO_9
      (try simp only [hl9_3])
      (try simp only [hl9_3] at HO_7)
      cases gk with
      | zero => exact absurd HA.out (by simp [bourneref03_compress.l1])
      | succ k3 =>
       have H := HA.out
       clear HA
       simp only [bourneref03_compress.l1] at H
       by_cases c33 : x11_3 < 10
       rotate_left
       ·rw [if_neg c33] at H
        have c33b0 : decide (x11_3 < 10) = false := decide_eq_false c33
        clear c33
        have H' := Aside0.mk H
        clear H
        go_wp2
        go_loopg [13, 14] k3 (fun kq v13 v14 w' => ∃ (x13_4 : List Int) (x14_4 : Int), v14 = .int .i64 x14_4 ∧ Aside0 (bourneref03_compress.l2 kq l0 x9_3 x13_4 x14_4 = some r) ∧ Aside0 (kq ≤ k3) ∧ Aside0 (Kd.R (Kd.int .u32) 97 w' w.heap.size (fun k_ => some k_ ≠ (v13 : Value).ownBlock) (.slice (some ⟨go13, 0, none⟩) x9_3.length co23) x9_3) ∧ Aside0 (Kd.R (Kd.int .u32) 97 w' w.heap.size (fun k_ => some k_ ≠ ((.slice (some ⟨go13, 0, none⟩) x9_3.length co23) : Value).ownBlock) v13 x13_4) ∧ Aside0 (Below w.heap.size w w'))
        case atStart => exact ⟨(([] : List Int)), (0), (by first | rfl | (simp; done) | (simp [*]; done)), H', ⟨Nat.le_refl _⟩, ⟨by (try simp only [hl9_15]); (try simp only [hl9_3]); (with_reducible repeat (first | apply Kd.R_alloc | apply Kd.R_drewN | apply Kd.R_drew)); exact Kd.R_mono HO_9.out (fun _ hk => (by simp [Value.ownBlock]))⟩, ⟨by (try simp only [hl9_15]); (try simp only [hl9_3]); first | exact Kd.R_nil _ _ _ _ _ | exact Kd.N_nil _ _ _ _ _ | exact Kd.V_nil _ _ _ _ _ | exact Kd.Q_nil _ _ _ _ _ | exact Kd.S_nil _ _ _ _ _⟩, ⟨by repeat (first | (with_reducible first | exact HB.out | apply below_alloc | apply pw_below_drewN | apply below_drew1) | exact HB.out)⟩⟩
        case round =>
         clear H'
         try clear c1
         try clear p2
         try clear q2
         try clear hx2
         try clear qi2
         try clear c3
         try clear c4
         try clear c5
         try clear c6
         try clear p6
         try clear c7
         try clear c8
         try clear c13
         try clear p22
         try clear q22
         try clear hx22
         try clear qi22
         try clear p23
         try clear q23
         try clear hx23
         try clear c33
         try clear c33b0
         try clear c35
         try clear c36
         try clear c37
         try clear c38
         try clear c39
         try clear c40
         try clear c42
         try clear c43
         try clear c44
         try clear c45
         try clear c46
         try clear c47
         try clear c49
         try clear c50
         try clear c51
         try clear c52
         try clear c53
         try clear c54
         try clear c56
         try clear c57
         try clear c58
         try clear c59
         try clear c60
         try clear c61
         try clear c63
         try clear c64
         try clear p64
         try clear c65
         try clear c66
         try clear c67
         try clear c68
         try clear c70
         try clear c71
         try clear c72
         try clear c73
         try clear c74
         try clear c75
         try clear c77
         try clear c78
         try clear c79
         try clear c80
         try clear c81
         try clear c82
         try clear c84
         try clear c85
         try clear c86
         try clear c87
         try clear c88
         try clear c89
         try clear hx222_0
         try clear hx223_0
         try clear hx224_0
         try clear hx225_0
         try clear hx227_0
         try clear hx228_0
         try clear hx229_0
         try clear hx230_0
         try clear p222
         try clear p223
         try clear p224
         try clear p225
         try clear p227
         try clear p228
         try clear p229
         try clear p230
         try clear q222
         try clear q223
         try clear q224
         try clear q225
         try clear q227
         try clear q228
         try clear q229
         try clear q230
         obtain ⟨x13_4, x14_4, rfl, HA, HK4, HO_9, HO_13, HB⟩ := hrel
         cases gk with
         | zero => exact absurd HA.out (by simp [bourneref03_compress.l2])
         | succ k4 =>
          have H := HA.out
          clear HA
          simp only [bourneref03_compress.l2] at H
          by_cases c110 : x14_4 < 8
          rotate_left
          ·rw [if_neg c110] at H
           have c110b0 : decide (x14_4 < 8) = false := decide_eq_false c110
           clear c110
           obtain rfl := Option.some.inj H
           go_wp2
           go_ret
           exact ⟨_, by first | rfl | (simp [errW_none, errW_some] <;> rfl) | (simp only [← hji11]; first | rfl | (simp [errW_none, errW_some] <;> rfl)) | (simp [*, errW_none, errW_some] <;> rfl), by (with_reducible repeat (first | apply Kd.R_alloc | apply Kd.R_drewN | apply Kd.R_drew)); exact Kd.R_mono HO_13.out (fun _ hk => trivial), by repeat (first | (with_reducible first | exact HB.out | apply below_alloc | apply pw_below_drewN | apply below_drew1) | exact HB.out)⟩
          rw [if_pos c110] at H
          have c110b0 : decide (x14_4 < 8) = true := decide_eq_true c110
          clear c110
          by_cases c111 : 0 ≤ x14_4
          rotate_left
          ·rw [if_neg c111] at H
           exact absurd H (by simp)
          rw [if_pos c111] at H
          have c111b0 : decide (0 ≤ x14_4) = true := decide_eq_true c111
          clear c111
          by_cases c112 : x14_4 < (l0.length : Int)
          rotate_left
          ·rw [if_neg c112] at H
           exact absurd H (by simp)
          rw [if_pos c112] at H
          have c112b0 : decide (x14_4 < (l0.length : Int)) = true := decide_eq_true c112
          clear c112
          by_cases c113 : x14_4 < (x9_3.length : Int)
          rotate_left
          ·rw [if_neg c113] at H
           exact absurd H (by simp)
          rw [if_pos c113] at H
          have c113b0 : decide (x14_4 < (x9_3.length : Int)) = true := decide_eq_true c113
          clear c113
          obtain ⟨ji114, hji114⟩ : ∃ j_ : Int, (wrap64 (x14_4 + 8)) = j_ := ⟨_, rfl⟩
          replace H : (if 0 ≤ (ji114) then (if (ji114) < (x9_3.length : Int) then (if x13_4.length < 35184372088832 then (bourneref03_compress.l2 k4 l0 x9_3 (x13_4 ++ [Go.bits .xor .u32 (Go.bits .xor .u32 (rd l0 x14_4) (rd x9_3 x14_4)) (rd x9_3 (ji114))]) (wrap64 (x14_4 + 1))) else (none)) else (none)) else (none)) = some r := by first | (rw [hji114] at H; exact H) | (simp only [hji114] at H ⊢; exact H)
          have hji114w : (IntKind.i64.wrap (x14_4 + 8)) = ji114 := (i64_w _).trans hji114
          by_cases c115 : 0 ≤ (ji114)
          rotate_left
          ·rw [if_neg c115] at H
           exact absurd H (by simp)
          rw [if_pos c115] at H
          have c115b0 : decide (0 ≤ (ji114)) = true := decide_eq_true c115
          clear c115
          by_cases c116 : (ji114) < (x9_3.length : Int)
          rotate_left
          ·rw [if_neg c116] at H
           exact absurd H (by simp)
          rw [if_pos c116] at H
          have c116b0 : decide ((ji114) < (x9_3.length : Int)) = true := decide_eq_true c116
          clear c116
          by_cases c117 : x13_4.length < 35184372088832
          rotate_left
          ·rw [if_neg c117] at H
           exact absurd H (by simp)
          rw [if_pos c117] at H
          have LMc117 := Aside0.mk c117
          clear c117
          obtain ⟨y235, hy235⟩ : ∃ y_ : List Int, y_ = (x13_4 ++ [Go.bits .xor .u32 (Go.bits .xor .u32 (rd l0 x14_4) (rd x9_3 x14_4)) (rd x9_3 (ji114))]) := ⟨_, rfl⟩
          replace H : (bourneref03_compress.l2 k4 l0 x9_3 y235 (wrap64 (x14_4 + 1))) = some r := by first | (rw [hy235]; with_reducible exact H) | (have H2_ := (Option.bind_some _ _).symm.trans H; rw [hy235]; with_reducible exact H2_) | (have H2_ := (Option.bind_some _ _).symm.trans H; with_reducible exact H2_) | with_reducible exact H | (rw [hy235]; exact H) | exact H
          have Ny235 := Aside0.mk hy235
          clear hy235
          have H' := Aside0.mk H
          clear H
          try go_wp2
          have n0_ := Aside0.mk (Kd.R_drew HO_9.out)
          have n1_ := Aside0.mk (Kd.R_drew HO_13.out)
          have n2_ := Aside0.mk (below_drew1 HB.out)
          clear HO_9
          clear HO_13
          clear HB
          have HO_9 := n0_
          have HO_13 := n1_
          have HB := n2_
          clear n0_ n1_ n2_
          have p232 : 0 ≤ (x14_4 : Int) := of_decide_eq_true (by first | (with_reducible assumption) | assumption)
          have q232 : x14_4 < (l0.length : Int) := of_decide_eq_true (by first | (with_reducible assumption) | assumption)
          obtain ⟨ad232, e232, hx232_0⟩ := Kd.at_int HR0.out x14_4 p232 q232
          have hw232_0 := hx232_0
          cases e232
          replace hx232_0 := (HB.out.cell (World.block_lt_of_cell? w _ hx232_0)).trans hx232_0
          replace p232 := eq_true p232
          replace q232 := eq_true q232
          have p233 : 0 ≤ (x14_4 : Int) := of_decide_eq_true (by first | (with_reducible assumption) | assumption)
          have q233 : x14_4 < (x9_3.length : Int) := of_decide_eq_true (by first | (with_reducible assumption) | assumption)
          obtain ⟨ad233, e233, hx233_0⟩ := Kd.at_int (Kd.R_reads' HO_9.out).2.2 x14_4 p233 q233
          obtain rfl : (⟨go13, 0, none⟩ : Addr) = ad233 := (by injection e233)
          (first | simp only [add_plain] at hx233_0 | simp only [add_at] at hx233_0 | simp only [Addr.add, Nat.zero_add] at hx233_0 | skip)
          replace p233 := eq_true p233
          replace q233 := eq_true q233
          have p234 : 0 ≤ ((ji114) : Int) := of_decide_eq_true (by first | (with_reducible assumption) | assumption)
          have q234 : (ji114) < (x9_3.length : Int) := of_decide_eq_true (by first | (with_reducible assumption) | assumption)
          obtain ⟨ad234, e234, hx234_0⟩ := Kd.at_int (Kd.R_reads' HO_9.out).2.2 (ji114) p234 q234
          obtain rfl : (⟨go13, 0, none⟩ : Addr) = ad234 := (by injection e234)
          (first | simp only [add_plain] at hx234_0 | simp only [add_at] at hx234_0 | simp only [Addr.add, Nat.zero_add] at hx234_0 | skip)
          replace p234 := eq_true p234
          replace q234 := eq_true q234
          refine start_ (n := 19) (S := fun w' => w'.cell? (ad232.add (x14_4).toNat) = some (.int .u32 (rd l0 x14_4)) ∧ w'.cell? ⟨go13, (x14_4).toNat, none⟩ = some (.int .u32 (rd x9_3 x14_4)) ∧ w'.cell? ⟨go13, ((ji114)).toNat, none⟩ = some (.int .u32 (rd x9_3 (ji114)))) (ds := [16, 17]) #[false, false, false, false, false, false, false, false, false, false, false, false, false, false, false, false, false, false, false] (by kernel_rfl) rfl rfl ⟨((HB.out.cell (World.block_lt_of_cell? w _ hw232_0)).trans hw232_0), hx233_0, hx234_0⟩ (fun hHeld => ?_); refine with_tabW bourneref03_compress.tab29 bourneref03_compress.bits29 (fun HT_ HW_ => ?_)
          generalize wr.drew = w118 at HO_9 HO_13 HB hx232_0 hx233_0 hx234_0 hHeld ⊢
          refine pure_ (i := 0) (N := some 189) (v := ?_) (a' := ?_) #[true, false, false, false, false, false, false, false, false, false, false, false, false, false, false, false, false, false, false] rfl rfl (any_of HT_.out (by kernel_rfl)) (fun _ _ _ h => h) (Or.inl ⟨by rfl, ?_⟩) ?_ ?_
          rotate_left
          ·intro w'
           go_simp
           with_reducible rfl
          rotate_left
          ·simp only [Act.put, List.setIfInBounds_toArray, List.set_cons_zero, List.set_cons_succ, i64_w, i32_w]
           rfl
          refine pure_ (i := 1) (N := some 190) (v := ?_) (a' := ?_) #[true, true, false, false, false, false, false, false, false, false, false, false, false, false, false, false, false, false, false] rfl rfl (any_of HT_.out (by kernel_rfl)) (fun _ _ _ h => h) (Or.inl ⟨by rfl, ?_⟩) ?_ ?_
          rotate_left
          ·intro w'
           go_simp
           with_reducible rfl
          rotate_left
          ·simp only [Act.put, List.setIfInBounds_toArray, List.set_cons_zero, List.set_cons_succ, i64_w, i32_w]
           rfl
          refine pure_ (i := 2) (N := some 191) (v := ?_) (a' := ?_) #[true, true, true, false, false, false, false, false, false, false, false, false, false, false, false, false, false, false, false] rfl rfl (any_of HT_.out (by kernel_rfl)) (fun _ _ _ h => h) (Or.inl ⟨by rfl, ?_⟩) ?_ ?_
          rotate_left
          ·intro w'
           go_simp
           with_reducible rfl
          rotate_left
          ·simp only [Act.put, List.setIfInBounds_toArray, List.set_cons_zero, List.set_cons_succ, i64_w, i32_w]
           rfl
          refine pure_ (i := 3) (N := some 192) (v := ?_) (a' := ?_) #[true, true, true, true, false, false, false, false, false, false, false, false, false, false, false, false, false, false, false] rfl rfl (any_of HT_.out (by kernel_rfl)) (fun _ _ _ h => h) (Or.inl ⟨by rfl, ?_⟩) ?_ ?_
          rotate_left
          ·intro w'
           go_simp
           with_reducible rfl
          rotate_left
          ·simp only [Act.put, List.setIfInBounds_toArray, List.set_cons_zero, List.set_cons_succ, i64_w, i32_w]
           rfl
          refine pure_ (i := 5) (N := some 194) (v := ?_) (a' := ?_) #[true, true, true, true, false, true, false, false, false, false, false, false, false, false, false, false, false, false, false] rfl rfl (any_of HT_.out (by kernel_rfl)) (fun _ _ _ h => h) (Or.inl ⟨by rfl, ?_⟩) ?_ ?_
          rotate_left
          ·intro w'
           go_simp
           with_reducible rfl
          rotate_left
          ·simp only [Act.put, List.setIfInBounds_toArray, List.set_cons_zero, List.set_cons_succ, i64_w, i32_w]
           rfl
          refine pure_ (i := 6) (N := some 195) (v := ?_) (a' := ?_) #[true, true, true, true, false, true, true, false, false, false, false, false, false, false, false, false, false, false, false] rfl rfl (any_of HT_.out (by kernel_rfl)) (fun _ _ _ h => h) (Or.inl ⟨by rfl, ?_⟩) ?_ ?_
          rotate_left
          ·intro w'
           go_simp
           with_reducible rfl
          rotate_left
          ·simp only [Act.put, List.setIfInBounds_toArray, List.set_cons_zero, List.set_cons_succ, i64_w, i32_w]
           rfl
          refine pure_ (i := 7) (N := some 196) (v := ?_) (a' := ?_) #[true, true, true, true, false, true, true, true, false, false, false, false, false, false, false, false, false, false, false] rfl rfl (any_of HT_.out (by kernel_rfl)) (fun _ _ _ h => h) (Or.inl ⟨by rfl, ?_⟩) ?_ ?_
          rotate_left
          ·intro w'
           go_simp
           with_reducible rfl
          rotate_left
          ·simp only [Act.put, List.setIfInBounds_toArray, List.set_cons_zero, List.set_cons_succ, i64_w, i32_w]
           rfl
          refine pure_ (i := 10) (N := some 199) (v := ?_) (a' := ?_) #[true, true, true, true, false, true, true, true, false, false, true, false, false, false, false, false, false, false, false] rfl rfl (any_of HT_.out (by kernel_rfl)) (fun _ _ _ h => h) (Or.inl ⟨by rfl, ?_⟩) ?_ ?_
          rotate_left
          ·intro w'
           go_simp
           with_reducible rfl
          rotate_left
          ·simp only [Act.put, List.setIfInBounds_toArray, List.set_cons_zero, List.set_cons_succ, i64_w, i32_w]
           rfl
          refine pure_ (i := 11) (N := some 200) (v := ?_) (a' := ?_) #[true, true, true, true, false, true, true, true, false, false, true, true, false, false, false, false, false, false, false] rfl rfl (any_of HT_.out (by kernel_rfl)) (fun _ _ _ h => h) (Or.inl ⟨by rfl, ?_⟩) ?_ ?_
          rotate_left
          ·intro w'
           go_simp
           with_reducible rfl
          rotate_left
          ·simp only [Act.put, List.setIfInBounds_toArray, List.set_cons_zero, List.set_cons_succ, i64_w, i32_w]
           rfl
          refine pure_ (i := 12) (N := some 201) (v := ?_) (a' := ?_) #[true, true, true, true, false, true, true, true, false, false, true, true, true, false, false, false, false, false, false] rfl rfl (any_of HT_.out (by kernel_rfl)) (fun _ _ _ h => h) (Or.inl ⟨by rfl, ?_⟩) ?_ ?_
          rotate_left
          ·intro w'
           go_simp
           with_reducible rfl
          rotate_left
          ·simp only [Act.put, List.setIfInBounds_toArray, List.set_cons_zero, List.set_cons_succ, i64_w, i32_w]
           rfl
          refine pure_ (i := 13) (N := some 202) (v := ?_) (a' := ?_) #[true, true, true, true, false, true, true, true, false, false, true, true, true, true, false, false, false, false, false] rfl rfl (any_of HT_.out (by kernel_rfl)) (fun _ _ _ h => h) (Or.inl ⟨by rfl, ?_⟩) ?_ ?_
          rotate_left
          ·intro w'
           go_simp
           with_reducible rfl
          rotate_left
          ·simp only [Act.put, List.setIfInBounds_toArray, List.set_cons_zero, List.set_cons_succ, i64_w, i32_w]
           rfl
          refine take_ (i := 4) (N := some 193) (v := ?_) (a' := ?_) #[true, true, true, true, true, true, true, true, false, false, true, true, true, true, false, false, false, false, false] rfl rfl (take_ofW HT_.out HW_.out (by kernel_rfl)) (fun _ _ _ h => h) (Or.inl ⟨by rfl, ?_⟩) hHeld ?_ ?_
          rotate_left
          ·rintro w' ⟨s0, s1, s2⟩
           go_simp
           with_reducible rfl
          rotate_left
          ·simp only [Act.put, List.setIfInBounds_toArray, List.set_cons_zero, List.set_cons_succ, i64_w, i32_w]
           rfl
          refine take_ (i := 8) (N := some 197) (v := ?_) (a' := ?_) #[true, true, true, true, true, true, true, true, true, false, true, true, true, true, false, false, false, false, false] rfl rfl (take_ofW HT_.out HW_.out (by kernel_rfl)) (fun _ _ _ h => h) (Or.inl ⟨by rfl, ?_⟩) hHeld ?_ ?_
          rotate_left
          ·rintro w' ⟨s0, s1, s2⟩
           go_simp
           with_reducible rfl
          rotate_left
          ·simp only [Act.put, List.setIfInBounds_toArray, List.set_cons_zero, List.set_cons_succ, i64_w, i32_w]
           rfl
          refine pure_ (i := 9) (N := some 198) (v := ?_) (a' := ?_) #[true, true, true, true, true, true, true, true, true, true, true, true, true, true, false, false, false, false, false] rfl rfl (any_of HT_.out (by kernel_rfl)) (fun _ _ _ h => h) (Or.inl ⟨by rfl, ?_⟩) ?_ ?_
          rotate_left
          ·intro w'
           go_simp
           with_reducible rfl
          rotate_left
          ·simp only [Act.put, List.setIfInBounds_toArray, List.set_cons_zero, List.set_cons_succ, i64_w, i32_w]
           rfl
          refine take_ (i := 14) (N := some 203) (v := ?_) (a' := ?_) #[true, true, true, true, true, true, true, true, true, true, true, true, true, true, true, false, false, false, false] rfl rfl (take_ofW HT_.out HW_.out (by kernel_rfl)) (fun _ _ _ h => h) (Or.inl ⟨by rfl, ?_⟩) hHeld ?_ ?_
          rotate_left
          ·rintro w' ⟨s0, s1, s2⟩
           go_simp
           with_reducible rfl
          rotate_left
          ·simp only [Act.put, List.setIfInBounds_toArray, List.set_cons_zero, List.set_cons_succ, i64_w, i32_w]
           rfl
          refine pure_ (i := 15) (N := some 204) (v := ?_) (a' := ?_) #[true, true, true, true, true, true, true, true, true, true, true, true, true, true, true, true, false, false, false] rfl rfl (any_of HT_.out (by kernel_rfl)) (fun _ _ _ h => h) (Or.inl ⟨by rfl, ?_⟩) ?_ ?_
          rotate_left
          ·intro w'
           go_simp
           with_reducible rfl
          rotate_left
          ·simp only [Act.put, List.setIfInBounds_toArray, List.set_cons_zero, List.set_cons_succ, i64_w, i32_w]
           rfl
          refine last_ (i := 16) (N := some 205) #[true, true, true, true, true, true, true, true, true, true, true, true, true, true, true, true, true, false, false] rfl rfl (one_of HT_.out (by kernel_rfl)) (by decide) (fun K hK => ?_)
          refine value_ (w1 := ?_) (v := ?_) (by rfl) rfl ?_ ?_
          rotate_left 2
          ·go_simp
           constructor
           ·rfl
           ·rfl
          refine hK.out _ _ ?_
          clear hK K
          refine norm_ (a' := ?_) ?_ ?_
          rotate_left
          ·show Act.put _ (some 205) _ = _
           simp only [Act.put, List.setIfInBounds_toArray, List.set_cons_zero, List.set_cons_succ, i64_w, i32_w]
           rfl
          refine last_ (i := 17) (N := some 206) #[true, true, true, true, true, true, true, true, true, true, true, true, true, true, true, true, true, true, false] rfl rfl (one_of HT_.out (by kernel_rfl)) (by decide) (fun K hK => ?_)
          refine Kd.R_append_step (Kd.int .u32) (w0 := w) w.heap.size (by rfl) (.tmp 189) (.tmp 205) 100 97 (.int .u32 0) 4 rfl Tryd.underlying100 info97 rfl (by decide) (by omega) u13 x13_4 (Go.bits .xor .u32 (Go.bits .xor .u32 (rd l0 x14_4) (rd x9_3 x14_4)) (rd x9_3 (ji114))) [.int .u32 (Go.bits .xor .u32 (Go.bits .xor .u32 (rd l0 x14_4) (rd x9_3 x14_4)) (rd x9_3 (ji114)))] (fun k_ => some k_ ≠ (.slice (some ⟨go13, 0, none⟩) x9_3.length co23 : Value).ownBlock) (fun _ => False) rfl rfl ?aP (fun _ hk => hk.elim) ?aF ?aO ?aB ?aS ?aL ?_
          (case aP => exact rfl)
          (case aB => exact (by repeat (first | (with_reducible first | exact HB.out | apply below_alloc | apply pw_below_drewN | apply below_drew1) | exact HB.out)))
          (case aF => exact (fun k_ hk => Kd.fresh' (Kd.R_lt (by (with_reducible repeat (first | apply Kd.R_alloc | apply Kd.R_drewN | apply Kd.R_drew)); exact HO_9.out)) k_ hk))
          (case aO => exact (by (with_reducible repeat (first | apply Kd.R_alloc | apply Kd.R_drewN | apply Kd.R_drew)); exact HO_13.out))
          (case aS => exact (below_size (by repeat (first | (with_reducible first | exact HB.out | apply below_alloc | apply pw_below_drewN | apply below_drew1) | exact HB.out))))
          (case aL => have := LMc117.out; omega)
          intro v236 w119 ho hb hg hat
          rw [← Ny235.out] at ho
          have n0_ := Aside0.mk (Kd.R_after (ok := (fun _ => True)) (by (with_reducible repeat (first | apply Kd.R_alloc | apply Kd.R_drewN | apply Kd.R_drew)); exact Kd.R_mono HO_9.out (fun _ hk => ⟨trivial, hk⟩)) hg hat)
          have n1_ := Aside0.mk (hb)
          have n2_ := Aside0.mk (ho)
          clear HO_9
          clear HB
          clear HO_13
          have HO_9 := n0_
          have HB := n1_
          have HO237 := n2_
          clear n0_ n1_ n2_
          clear ho hb hg hat
          refine hK.out _ _ ?_
          clear hK K
          refine norm_ (a' := ?_) ?_ ?_
          rotate_left
          ·show Act.put _ (some 206) _ = _
           simp only [Act.put, List.setIfInBounds_toArray, List.set_cons_zero, List.set_cons_succ, i64_w, i32_w]
           rfl
          refine pure_ (i := 18) (N := some 13) (v := ?_) (a' := ?_) #[true, true, true, true, true, true, true, true, true, true, true, true, true, true, true, true, true, true, true] rfl rfl (any_of HT_.out (by kernel_rfl)) (fun _ _ _ h => h) (Or.inl ⟨by rfl, ?_⟩) ?_ ?_
          rotate_left
          ·intro w'
           go_simp
           with_reducible rfl
          rotate_left
          ·simp only [Act.put, List.setIfInBounds_toArray, List.set_cons_zero, List.set_cons_succ, i64_w, i32_w]
           rfl
          refine done_ (done_of HT_.out (by kernel_rfl)) ?_
          try go_wp2
          go_roundg k4
          case measure => have := HK1.out; have := HJ15.out; have := HK3.out; have := HK4.out; omega
          case rel => exact ⟨(y235), (wrap64 (x14_4 + 1)), (by first | rfl | (simp; done) | (simp [*]; done)), H', ⟨by have := HK1.out; have := HJ15.out; have := HK3.out; have := HK4.out; omega⟩, ⟨by (try simp only [hl9_15]); (try simp only [hl9_3]); (with_reducible repeat (first | apply Kd.R_alloc | apply Kd.R_drewN | apply Kd.R_drew)); exact Kd.R_mono HO_9.out (fun _ hk => hk.2)⟩, ⟨by (try simp only [hl9_15]); (try simp only [hl9_3]); (with_reducible repeat (first | apply Kd.R_alloc | apply Kd.R_drewN | apply Kd.R_drew)); exact HO237.out⟩, ⟨by repeat (first | (with_reducible first | exact HB.out | apply below_alloc | apply pw_below_drewN | apply below_drew1) | exact HB.out)⟩⟩
       rw [if_pos c33] at H
       have c33b0 : decide (x11_3 < 10) = true := decide_eq_true c33
       clear c33
       replace H := Option.bind_eq_some_iff.mp H
       obtain ⟨t189, A340, H⟩ := H
       replace H : (if 0 < (t189.length : Int) then (if 0 ≤ (rd t189 0) then (if (rd t189 0) < (x7_1.length : Int) then (if 1 < (t189.length : Int) then (if 0 ≤ (rd t189 1) then (if (rd t189 1) < (x7_1.length : Int) then ((bourneref03_g.f x9_3 0 4 8 12 (rd x7_1 (rd t189 0)) (rd x7_1 (rd t189 1))).bind fun t196 => (if 2 < (t189.length : Int) then (if 0 ≤ (rd t189 2) then (if (rd t189 2) < (x7_1.length : Int) then (if 3 < (t189.length : Int) then (if 0 ≤ (rd t189 3) then (if (rd t189 3) < (x7_1.length : Int) then ((bourneref03_g.f t196 1 5 9 13 (rd x7_1 (rd t189 2)) (rd x7_1 (rd t189 3))).bind fun t201 => (if 4 < (t189.length : Int) then (if 0 ≤ (rd t189 4) then (if (rd t189 4) < (x7_1.length : Int) then (if 5 < (t189.length : Int) then (if 0 ≤ (rd t189 5) then (if (rd t189 5) < (x7_1.length : Int) then ((bourneref03_g.f t201 2 6 10 14 (rd x7_1 (rd t189 4)) (rd x7_1 (rd t189 5))).bind fun t206 => (if 6 < (t189.length : Int) then (if 0 ≤ (rd t189 6) then (if (rd t189 6) < (x7_1.length : Int) then (if 7 < (t189.length : Int) then (if 0 ≤ (rd t189 7) then (if (rd t189 7) < (x7_1.length : Int) then ((bourneref03_g.f t206 3 7 11 15 (rd x7_1 (rd t189 6)) (rd x7_1 (rd t189 7))).bind fun t211 => (if 8 < (t189.length : Int) then (if 0 ≤ (rd t189 8) then (if (rd t189 8) < (x7_1.length : Int) then (if 9 < (t189.length : Int) then (if 0 ≤ (rd t189 9) then (if (rd t189 9) < (x7_1.length : Int) then ((bourneref03_g.f t211 0 5 10 15 (rd x7_1 (rd t189 8)) (rd x7_1 (rd t189 9))).bind fun t216 => (if 10 < (t189.length : Int) then (if 0 ≤ (rd t189 10) then (if (rd t189 10) < (x7_1.length : Int) then (if 11 < (t189.length : Int) then (if 0 ≤ (rd t189 11) then (if (rd t189 11) < (x7_1.length : Int) then ((bourneref03_g.f t216 1 6 11 12 (rd x7_1 (rd t189 10)) (rd x7_1 (rd t189 11))).bind fun t221 => (if 12 < (t189.length : Int) then (if 0 ≤ (rd t189 12) then (if (rd t189 12) < (x7_1.length : Int) then (if 13 < (t189.length : Int) then (if 0 ≤ (rd t189 13) then (if (rd t189 13) < (x7_1.length : Int) then ((bourneref03_g.f t221 2 7 8 13 (rd x7_1 (rd t189 12)) (rd x7_1 (rd t189 13))).bind fun t226 => (if 14 < (t189.length : Int) then (if 0 ≤ (rd t189 14) then (if (rd t189 14) < (x7_1.length : Int) then (if 15 < (t189.length : Int) then (if 0 ≤ (rd t189 15) then (if (rd t189 15) < (x7_1.length : Int) then ((bourneref03_g.f t226 3 4 9 14 (rd x7_1 (rd t189 14)) (rd x7_1 (rd t189 15))).bind fun t231 => (bourneref03_compress.l1 k3 l0 x7_1 t231 (wrap64 (x11_3 + 1)))) else (none)) else (none)) else (none)) else (none)) else (none)) else (none))) else (none)) else (none)) else (none)) else (none)) else (none)) else (none))) else (none)) else (none)) else (none)) else (none)) else (none)) else (none))) else (none)) else (none)) else (none)) else (none)) else (none)) else (none))) else (none)) else (none)) else (none)) else (none)) else (none)) else (none))) else (none)) else (none)) else (none)) else (none)) else (none)) else (none))) else (none)) else (none)) else (none)) else (none)) else (none)) else (none))) else (none)) else (none)) else (none)) else (none)) else (none)) else (none)) = some r := H
       have A34 := Aside0.mk A340
       clear A340
       by_cases c35 : 0 < (t189.length : Int)
       rotate_left
       ·rw [if_neg c35] at H
        exact absurd H (by simp)
       rw [if_pos c35] at H
       have c35b0 : decide (0 < (t189.length : Int)) = true := decide_eq_true c35
       have c35b1 : decide (0 < t189.length) = true := decide_eq_true (by omega)
       clear c35
       by_cases c36 : 0 ≤ (rd t189 0)
       rotate_left
       ·rw [if_neg c36] at H
        exact absurd H (by simp)
       rw [if_pos c36] at H
       have c36b0 : decide (0 ≤ (rd t189 0)) = true := decide_eq_true c36
       clear c36
       by_cases c37 : (rd t189 0) < (x7_1.length : Int)
       rotate_left
       ·rw [if_neg c37] at H
        exact absurd H (by simp)
       rw [if_pos c37] at H
       have c37b0 : decide ((rd t189 0) < (x7_1.length : Int)) = true := decide_eq_true c37
       clear c37
       by_cases c38 : 1 < (t189.length : Int)
       rotate_left
       ·rw [if_neg c38] at H
        exact absurd H (by simp)
       rw [if_pos c38] at H
       have c38b0 : decide (1 < (t189.length : Int)) = true := decide_eq_true c38
       have c38b1 : decide (1 < t189.length) = true := decide_eq_true (by omega)
       clear c38
       by_cases c39 : 0 ≤ (rd t189 1)
       rotate_left
       ·rw [if_neg c39] at H
        exact absurd H (by simp)
       rw [if_pos c39] at H
       have c39b0 : decide (0 ≤ (rd t189 1)) = true := decide_eq_true c39
       clear c39
       by_cases c40 : (rd t189 1) < (x7_1.length : Int)
       rotate_left
       ·rw [if_neg c40] at H
        exact absurd H (by simp)
       rw [if_pos c40] at H
       have c40b0 : decide ((rd t189 1) < (x7_1.length : Int)) = true := decide_eq_true c40
       clear c40
       replace H := Option.bind_eq_some_iff.mp H
       obtain ⟨t196, A410, H⟩ := H
       replace H : (if 2 < (t189.length : Int) then (if 0 ≤ (rd t189 2) then (if (rd t189 2) < (x7_1.length : Int) then (if 3 < (t189.length : Int) then (if 0 ≤ (rd t189 3) then (if (rd t189 3) < (x7_1.length : Int) then ((bourneref03_g.f t196 1 5 9 13 (rd x7_1 (rd t189 2)) (rd x7_1 (rd t189 3))).bind fun t201 => (if 4 < (t189.length : Int) then (if 0 ≤ (rd t189 4) then (if (rd t189 4) < (x7_1.length : Int) then (if 5 < (t189.length : Int) then (if 0 ≤ (rd t189 5) then (if (rd t189 5) < (x7_1.length : Int) then ((bourneref03_g.f t201 2 6 10 14 (rd x7_1 (rd t189 4)) (rd x7_1 (rd t189 5))).bind fun t206 => (if 6 < (t189.length : Int) then (if 0 ≤ (rd t189 6) then (if (rd t189 6) < (x7_1.length : Int) then (if 7 < (t189.length : Int) then (if 0 ≤ (rd t189 7) then (if (rd t189 7) < (x7_1.length : Int) then ((bourneref03_g.f t206 3 7 11 15 (rd x7_1 (rd t189 6)) (rd x7_1 (rd t189 7))).bind fun t211 => (if 8 < (t189.length : Int) then (if 0 ≤ (rd t189 8) then (if (rd t189 8) < (x7_1.length : Int) then (if 9 < (t189.length : Int) then (if 0 ≤ (rd t189 9) then (if (rd t189 9) < (x7_1.length : Int) then ((bourneref03_g.f t211 0 5 10 15 (rd x7_1 (rd t189 8)) (rd x7_1 (rd t189 9))).bind fun t216 => (if 10 < (t189.length : Int) then (if 0 ≤ (rd t189 10) then (if (rd t189 10) < (x7_1.length : Int) then (if 11 < (t189.length : Int) then (if 0 ≤ (rd t189 11) then (if (rd t189 11) < (x7_1.length : Int) then ((bourneref03_g.f t216 1 6 11 12 (rd x7_1 (rd t189 10)) (rd x7_1 (rd t189 11))).bind fun t221 => (if 12 < (t189.length : Int) then (if 0 ≤ (rd t189 12) then (if (rd t189 12) < (x7_1.length : Int) then (if 13 < (t189.length : Int) then (if 0 ≤ (rd t189 13) then (if (rd t189 13) < (x7_1.length : Int) then ((bourneref03_g.f t221 2 7 8 13 (rd x7_1 (rd t189 12)) (rd x7_1 (rd t189 13))).bind fun t226 => (if 14 < (t189.length : Int) then (if 0 ≤ (rd t189 14) then (if (rd t189 14) < (x7_1.length : Int) then (if 15 < (t189.length : Int) then (if 0 ≤ (rd t189 15) then (if (rd t189 15) < (x7_1.length : Int) then ((bourneref03_g.f t226 3 4 9 14 (rd x7_1 (rd t189 14)) (rd x7_1 (rd t189 15))).bind fun t231 => (bourneref03_compress.l1 k3 l0 x7_1 t231 (wrap64 (x11_3 + 1)))) else (none)) else (none)) else (none)) else (none)) else (none)) else (none))) else (none)) else (none)) else (none)) else (none)) else (none)) else (none))) else (none)) else (none)) else (none)) else (none)) else (none)) else (none))) else (none)) else (none)) else (none)) else (none)) else (none)) else (none))) else (none)) else (none)) else (none)) else (none)) else (none)) else (none))) else (none)) else (none)) else (none)) else (none)) else (none)) else (none))) else (none)) else (none)) else (none)) else (none)) else (none)) else (none)) = some r := H
       have A41 := Aside0.mk A410
       clear A410
       by_cases c42 : 2 < (t189.length : Int)
       rotate_left
       ·rw [if_neg c42] at H
        exact absurd H (by simp)
       rw [if_pos c42] at H
       have c42b0 : decide (2 < (t189.length : Int)) = true := decide_eq_true c42
       have c42b1 : decide (2 < t189.length) = true := decide_eq_true (by omega)
       clear c42
       by_cases c43 : 0 ≤ (rd t189 2)
       rotate_left
       ·rw [if_neg c43] at H
        exact absurd H (by simp)
       rw [if_pos c43] at H
       have c43b0 : decide (0 ≤ (rd t189 2)) = true := decide_eq_true c43
       clear c43
       by_cases c44 : (rd t189 2) < (x7_1.length : Int)
       rotate_left
       ·rw [if_neg c44] at H
        exact absurd H (by simp)
       rw [if_pos c44] at H
       have c44b0 : decide ((rd t189 2) < (x7_1.length : Int)) = true := decide_eq_true c44
       clear c44
       by_cases c45 : 3 < (t189.length : Int)
       rotate_left
       ·rw [if_neg c45] at H
        exact absurd H (by simp)
       rw [if_pos c45] at H
       have c45b0 : decide (3 < (t189.length : Int)) = true := decide_eq_true c45
       have c45b1 : decide (3 < t189.length) = true := decide_eq_true (by omega)
       clear c45
       by_cases c46 : 0 ≤ (rd t189 3)
       rotate_left
       ·rw [if_neg c46] at H
        exact absurd H (by simp)
       rw [if_pos c46] at H
       have c46b0 : decide (0 ≤ (rd t189 3)) = true := decide_eq_true c46
       clear c46
       by_cases c47 : (rd t189 3) < (x7_1.length : Int)
       rotate_left
       ·rw [if_neg c47] at H
        exact absurd H (by simp)
       rw [if_pos c47] at H
       have c47b0 : decide ((rd t189 3) < (x7_1.length : Int)) = true := decide_eq_true c47
       clear c47
       replace H := Option.bind_eq_some_iff.mp H
       obtain ⟨t201, A480, H⟩ := H
       replace H : (if 4 < (t189.length : Int) then (if 0 ≤ (rd t189 4) then (if (rd t189 4) < (x7_1.length : Int) then (if 5 < (t189.length : Int) then (if 0 ≤ (rd t189 5) then (if (rd t189 5) < (x7_1.length : Int) then ((bourneref03_g.f t201 2 6 10 14 (rd x7_1 (rd t189 4)) (rd x7_1 (rd t189 5))).bind fun t206 => (if 6 < (t189.length : Int) then (if 0 ≤ (rd t189 6) then (if (rd t189 6) < (x7_1.length : Int) then (if 7 < (t189.length : Int) then (if 0 ≤ (rd t189 7) then (if (rd t189 7) < (x7_1.length : Int) then ((bourneref03_g.f t206 3 7 11 15 (rd x7_1 (rd t189 6)) (rd x7_1 (rd t189 7))).bind fun t211 => (if 8 < (t189.length : Int) then (if 0 ≤ (rd t189 8) then (if (rd t189 8) < (x7_1.length : Int) then (if 9 < (t189.length : Int) then (if 0 ≤ (rd t189 9) then (if (rd t189 9) < (x7_1.length : Int) then ((bourneref03_g.f t211 0 5 10 15 (rd x7_1 (rd t189 8)) (rd x7_1 (rd t189 9))).bind fun t216 => (if 10 < (t189.length : Int) then (if 0 ≤ (rd t189 10) then (if (rd t189 10) < (x7_1.length : Int) then (if 11 < (t189.length : Int) then (if 0 ≤ (rd t189 11) then (if (rd t189 11) < (x7_1.length : Int) then ((bourneref03_g.f t216 1 6 11 12 (rd x7_1 (rd t189 10)) (rd x7_1 (rd t189 11))).bind fun t221 => (if 12 < (t189.length : Int) then (if 0 ≤ (rd t189 12) then (if (rd t189 12) < (x7_1.length : Int) then (if 13 < (t189.length : Int) then (if 0 ≤ (rd t189 13) then (if (rd t189 13) < (x7_1.length : Int) then ((bourneref03_g.f t221 2 7 8 13 (rd x7_1 (rd t189 12)) (rd x7_1 (rd t189 13))).bind fun t226 => (if 14 < (t189.length : Int) then (if 0 ≤ (rd t189 14) then (if (rd t189 14) < (x7_1.length : Int) then (if 15 < (t189.length : Int) then (if 0 ≤ (rd t189 15) then (if (rd t189 15) < (x7_1.length : Int) then ((bourneref03_g.f t226 3 4 9 14 (rd x7_1 (rd t189 14)) (rd x7_1 (rd t189 15))).bind fun t231 => (bourneref03_compress.l1 k3 l0 x7_1 t231 (wrap64 (x11_3 + 1)))) else (none)) else (none)) else (none)) else (none)) else (none)) else (none))) else (none)) else (none)) else (none)) else (none)) else (none)) else (none))) else (none)) else (none)) else (none)) else (none)) else (none)) else (none))) else (none)) else (none)) else (none)) else (none)) else (none)) else (none))) else (none)) else (none)) else (none)) else (none)) else (none)) else (none))) else (none)) else (none)) else (none)) else (none)) else (none)) else (none)) = some r := H
       have A48 := Aside0.mk A480
       clear A480
       by_cases c49 : 4 < (t189.length : Int)
       rotate_left
       ·rw [if_neg c49] at H
        exact absurd H (by simp)
       rw [if_pos c49] at H
       have c49b0 : decide (4 < (t189.length : Int)) = true := decide_eq_true c49
       have c49b1 : decide (4 < t189.length) = true := decide_eq_true (by omega)
       clear c49
       by_cases c50 : 0 ≤ (rd t189 4)
       rotate_left
       ·rw [if_neg c50] at H
        exact absurd H (by simp)
       rw [if_pos c50] at H
       have c50b0 : decide (0 ≤ (rd t189 4)) = true := decide_eq_true c50
       clear c50
       by_cases c51 : (rd t189 4) < (x7_1.length : Int)
       rotate_left
       ·rw [if_neg c51] at H
        exact absurd H (by simp)
       rw [if_pos c51] at H
       have c51b0 : decide ((rd t189 4) < (x7_1.length : Int)) = true := decide_eq_true c51
       clear c51
       by_cases c52 : 5 < (t189.length : Int)
       rotate_left
       ·rw [if_neg c52] at H
        exact absurd H (by simp)
       rw [if_pos c52] at H
       have c52b0 : decide (5 < (t189.length : Int)) = true := decide_eq_true c52
       have c52b1 : decide (5 < t189.length) = true := decide_eq_true (by omega)
       clear c52
       by_cases c53 : 0 ≤ (rd t189 5)
       rotate_left
       ·rw [if_neg c53] at H
        exact absurd H (by simp)
       rw [if_pos c53] at H
       have c53b0 : decide (0 ≤ (rd t189 5)) = true := decide_eq_true c53
       clear c53
       by_cases c54 : (rd t189 5) < (x7_1.length : Int)
       rotate_left
       ·rw [if_neg c54] at H
        exact absurd H (by simp)
       rw [if_pos c54] at H
       have c54b0 : decide ((rd t189 5) < (x7_1.length : Int)) = true := decide_eq_true c54
       clear c54
       replace H := Option.bind_eq_some_iff.mp H
       obtain ⟨t206, A550, H⟩ := H
       replace H : (if 6 < (t189.length : Int) then (if 0 ≤ (rd t189 6) then (if (rd t189 6) < (x7_1.length : Int) then (if 7 < (t189.length : Int) then (if 0 ≤ (rd t189 7) then (if (rd t189 7) < (x7_1.length : Int) then ((bourneref03_g.f t206 3 7 11 15 (rd x7_1 (rd t189 6)) (rd x7_1 (rd t189 7))).bind fun t211 => (if 8 < (t189.length : Int) then (if 0 ≤ (rd t189 8) then (if (rd t189 8) < (x7_1.length : Int) then (if 9 < (t189.length : Int) then (if 0 ≤ (rd t189 9) then (if (rd t189 9) < (x7_1.length : Int) then ((bourneref03_g.f t211 0 5 10 15 (rd x7_1 (rd t189 8)) (rd x7_1 (rd t189 9))).bind fun t216 => (if 10 < (t189.length : Int) then (if 0 ≤ (rd t189 10) then (if (rd t189 10) < (x7_1.length : Int) then (if 11 < (t189.length : Int) then (if 0 ≤ (rd t189 11) then (if (rd t189 11) < (x7_1.length : Int) then ((bourneref03_g.f t216 1 6 11 12 (rd x7_1 (rd t189 10)) (rd x7_1 (rd t189 11))).bind fun t221 => (if 12 < (t189.length : Int) then (if 0 ≤ (rd t189 12) then (if (rd t189 12) < (x7_1.length : Int) then (if 13 < (t189.length : Int) then (if 0 ≤ (rd t189 13) then (if (rd t189 13) < (x7_1.length : Int) then ((bourneref03_g.f t221 2 7 8 13 (rd x7_1 (rd t189 12)) (rd x7_1 (rd t189 13))).bind fun t226 => (if 14 < (t189.length : Int) then (if 0 ≤ (rd t189 14) then (if (rd t189 14) < (x7_1.length : Int) then (if 15 < (t189.length : Int) then (if 0 ≤ (rd t189 15) then (if (rd t189 15) < (x7_1.length : Int) then ((bourneref03_g.f t226 3 4 9 14 (rd x7_1 (rd t189 14)) (rd x7_1 (rd t189 15))).bind fun t231 => (bourneref03_compress.l1 k3 l0 x7_1 t231 (wrap64 (x11_3 + 1)))) else (none)) else (none)) else (none)) else (none)) else (none)) else (none))) else (none)) else (none)) else (none)) else (none)) else (none)) else (none))) else (none)) else (none)) else (none)) else (none)) else (none)) else (none))) else (none)) else (none)) else (none)) else (none)) else (none)) else (none))) else (none)) else (none)) else (none)) else (none)) else (none)) else (none)) = some r := H
       have A55 := Aside0.mk A550
       clear A550
       by_cases c56 : 6 < (t189.length : Int)
       rotate_left
       ·rw [if_neg c56] at H
        exact absurd H (by simp)
       rw [if_pos c56] at H
       have c56b0 : decide (6 < (t189.length : Int)) = true := decide_eq_true c56
       have c56b1 : decide (6 < t189.length) = true := decide_eq_true (by omega)
       clear c56
       by_cases c57 : 0 ≤ (rd t189 6)
       rotate_left
       ·rw [if_neg c57] at H
        exact absurd H (by simp)
       rw [if_pos c57] at H
       have c57b0 : decide (0 ≤ (rd t189 6)) = true := decide_eq_true c57
       clear c57
       by_cases c58 : (rd t189 6) < (x7_1.length : Int)
       rotate_left
       ·rw [if_neg c58] at H
        exact absurd H (by simp)
       rw [if_pos c58] at H
       have c58b0 : decide ((rd t189 6) < (x7_1.length : Int)) = true := decide_eq_true c58
       clear c58
       by_cases c59 : 7 < (t189.length : Int)
       rotate_left
       ·rw [if_neg c59] at H
        exact absurd H (by simp)
       rw [if_pos c59] at H
       have c59b0 : decide (7 < (t189.length : Int)) = true := decide_eq_true c59
       have c59b1 : decide (7 < t189.length) = true := decide_eq_true (by omega)
       clear c59
       by_cases c60 : 0 ≤ (rd t189 7)
       rotate_left
       ·rw [if_neg c60] at H
        exact absurd H (by simp)
       rw [if_pos c60] at H
       have c60b0 : decide (0 ≤ (rd t189 7)) = true := decide_eq_true c60
       clear c60
       by_cases c61 : (rd t189 7) < (x7_1.length : Int)
       rotate_left
       ·rw [if_neg c61] at H
        exact absurd H (by simp)
       rw [if_pos c61] at H
       have c61b0 : decide ((rd t189 7) < (x7_1.length : Int)) = true := decide_eq_true c61
       clear c61
       replace H := Option.bind_eq_some_iff.mp H
       obtain ⟨t211, A620, H⟩ := H
       replace H : (if 8 < (t189.length : Int) then (if 0 ≤ (rd t189 8) then (if (rd t189 8) < (x7_1.length : Int) then (if 9 < (t189.length : Int) then (if 0 ≤ (rd t189 9) then (if (rd t189 9) < (x7_1.length : Int) then ((bourneref03_g.f t211 0 5 10 15 (rd x7_1 (rd t189 8)) (rd x7_1 (rd t189 9))).bind fun t216 => (if 10 < (t189.length : Int) then (if 0 ≤ (rd t189 10) then (if (rd t189 10) < (x7_1.length : Int) then (if 11 < (t189.length : Int) then (if 0 ≤ (rd t189 11) then (if (rd t189 11) < (x7_1.length : Int) then ((bourneref03_g.f t216 1 6 11 12 (rd x7_1 (rd t189 10)) (rd x7_1 (rd t189 11))).bind fun t221 => (if 12 < (t189.length : Int) then (if 0 ≤ (rd t189 12) then (if (rd t189 12) < (x7_1.length : Int) then (if 13 < (t189.length : Int) then (if 0 ≤ (rd t189 13) then (if (rd t189 13) < (x7_1.length : Int) then ((bourneref03_g.f t221 2 7 8 13 (rd x7_1 (rd t189 12)) (rd x7_1 (rd t189 13))).bind fun t226 => (if 14 < (t189.length : Int) then (if 0 ≤ (rd t189 14) then (if (rd t189 14) < (x7_1.length : Int) then (if 15 < (t189.length : Int) then (if 0 ≤ (rd t189 15) then (if (rd t189 15) < (x7_1.length : Int) then ((bourneref03_g.f t226 3 4 9 14 (rd x7_1 (rd t189 14)) (rd x7_1 (rd t189 15))).bind fun t231 => (bourneref03_compress.l1 k3 l0 x7_1 t231 (wrap64 (x11_3 + 1)))) else (none)) else (none)) else (none)) else (none)) else (none)) else (none))) else (none)) else (none)) else (none)) else (none)) else (none)) else (none))) else (none)) else (none)) else (none)) else (none)) else (none)) else (none))) else (none)) else (none)) else (none)) else (none)) else (none)) else (none)) = some r := H
       have A62 := Aside0.mk A620
       clear A620
       by_cases c63 : 8 < (t189.length : Int)
       rotate_left
       ·rw [if_neg c63] at H
        exact absurd H (by simp)
       rw [if_pos c63] at H
       have c63b0 : decide (8 < (t189.length : Int)) = true := decide_eq_true c63
       have c63b1 : decide (8 < t189.length) = true := decide_eq_true (by omega)
       clear c63
       by_cases c64 : 0 ≤ (rd t189 8)
       rotate_left
       ·rw [if_neg c64] at H
        exact absurd H (by simp)
       rw [if_pos c64] at H
       have c64b0 : decide (0 ≤ (rd t189 8)) = true := decide_eq_true c64
       clear c64
       by_cases c65 : (rd t189 8) < (x7_1.length : Int)
       rotate_left
       ·rw [if_neg c65] at H
        exact absurd H (by simp)
       rw [if_pos c65] at H
       have c65b0 : decide ((rd t189 8) < (x7_1.length : Int)) = true := decide_eq_true c65
       clear c65
       by_cases c66 : 9 < (t189.length : Int)
       rotate_left
       ·rw [if_neg c66] at H
        exact absurd H (by simp)
       rw [if_pos c66] at H
       have c66b0 : decide (9 < (t189.length : Int)) = true := decide_eq_true c66
       have c66b1 : decide (9 < t189.length) = true := decide_eq_true (by omega)
       clear c66
       by_cases c67 : 0 ≤ (rd t189 9)
       rotate_left
       ·rw [if_neg c67] at H
        exact absurd H (by simp)
       rw [if_pos c67] at H
       have c67b0 : decide (0 ≤ (rd t189 9)) = true := decide_eq_true c67
       clear c67
       by_cases c68 : (rd t189 9) < (x7_1.length : Int)
       rotate_left
       ·rw [if_neg c68] at H
        exact absurd H (by simp)
       rw [if_pos c68] at H
       have c68b0 : decide ((rd t189 9) < (x7_1.length : Int)) = true := decide_eq_true c68
       clear c68
       replace H := Option.bind_eq_some_iff.mp H
       obtain ⟨t216, A690, H⟩ := H
       replace H : (if 10 < (t189.length : Int) then (if 0 ≤ (rd t189 10) then (if (rd t189 10) < (x7_1.length : Int) then (if 11 < (t189.length : Int) then (if 0 ≤ (rd t189 11) then (if (rd t189 11) < (x7_1.length : Int) then ((bourneref03_g.f t216 1 6 11 12 (rd x7_1 (rd t189 10)) (rd x7_1 (rd t189 11))).bind fun t221 => (if 12 < (t189.length : Int) then (if 0 ≤ (rd t189 12) then (if (rd t189 12) < (x7_1.length : Int) then (if 13 < (t189.length : Int) then (if 0 ≤ (rd t189 13) then (if (rd t189 13) < (x7_1.length : Int) then ((bourneref03_g.f t221 2 7 8 13 (rd x7_1 (rd t189 12)) (rd x7_1 (rd t189 13))).bind fun t226 => (if 14 < (t189.length : Int) then (if 0 ≤ (rd t189 14) then (if (rd t189 14) < (x7_1.length : Int) then (if 15 < (t189.length : Int) then (if 0 ≤ (rd t189 15) then (if (rd t189 15) < (x7_1.length : Int) then ((bourneref03_g.f t226 3 4 9 14 (rd x7_1 (rd t189 14)) (rd x7_1 (rd t189 15))).bind fun t231 => (bourneref03_compress.l1 k3 l0 x7_1 t231 (wrap64 (x11_3 + 1)))) else (none)) else (none)) else (none)) else (none)) else (none)) else (none))) else (none)) else (none)) else (none)) else (none)) else (none)) else (none))) else (none)) else (none)) else (none)) else (none)) else (none)) else (none)) = some r := H
       have A69 := Aside0.mk A690
       clear A690
       by_cases c70 : 10 < (t189.length : Int)
       rotate_left
       ·rw [if_neg c70] at H
        exact absurd H (by simp)
       rw [if_pos c70] at H
       have c70b0 : decide (10 < (t189.length : Int)) = true := decide_eq_true c70
       have c70b1 : decide (10 < t189.length) = true := decide_eq_true (by omega)
       clear c70
       by_cases c71 : 0 ≤ (rd t189 10)
       rotate_left
       ·rw [if_neg c71] at H
        exact absurd H (by simp)
       rw [if_pos c71] at H
       have c71b0 : decide (0 ≤ (rd t189 10)) = true := decide_eq_true c71
       clear c71
       by_cases c72 : (rd t189 10) < (x7_1.length : Int)
       rotate_left
       ·rw [if_neg c72] at H
        exact absurd H (by simp)
       rw [if_pos c72] at H
       have c72b0 : decide ((rd t189 10) < (x7_1.length : Int)) = true := decide_eq_true c72
       clear c72
       by_cases c73 : 11 < (t189.length : Int)
       rotate_left
       ·rw [if_neg c73] at H
        exact absurd H (by simp)
       rw [if_pos c73] at H
       have c73b0 : decide (11 < (t189.length : Int)) = true := decide_eq_true c73
       have c73b1 : decide (11 < t189.length) = true := decide_eq_true (by omega)
       clear c73
       by_cases c74 : 0 ≤ (rd t189 11)
       rotate_left
       ·rw [if_neg c74] at H
        exact absurd H (by simp)
       rw [if_pos c74] at H
       have c74b0 : decide (0 ≤ (rd t189 11)) = true := decide_eq_true c74
       clear c74
       by_cases c75 : (rd t189 11) < (x7_1.length : Int)
       rotate_left
       ·rw [if_neg c75] at H
        exact absurd H (by simp)
       rw [if_pos c75] at H
       have c75b0 : decide ((rd t189 11) < (x7_1.length : Int)) = true := decide_eq_true c75
       clear c75
       replace H := Option.bind_eq_some_iff.mp H
       obtain ⟨t221, A760, H⟩ := H
       replace H : (if 12 < (t189.length : Int) then (if 0 ≤ (rd t189 12) then (if (rd t189 12) < (x7_1.length : Int) then (if 13 < (t189.length : Int) then (if 0 ≤ (rd t189 13) then (if (rd t189 13) < (x7_1.length : Int) then ((bourneref03_g.f t221 2 7 8 13 (rd x7_1 (rd t189 12)) (rd x7_1 (rd t189 13))).bind fun t226 => (if 14 < (t189.length : Int) then (if 0 ≤ (rd t189 14) then (if (rd t189 14) < (x7_1.length : Int) then (if 15 < (t189.length : Int) then (if 0 ≤ (rd t189 15) then (if (rd t189 15) < (x7_1.length : Int) then ((bourneref03_g.f t226 3 4 9 14 (rd x7_1 (rd t189 14)) (rd x7_1 (rd t189 15))).bind fun t231 => (bourneref03_compress.l1 k3 l0 x7_1 t231 (wrap64 (x11_3 + 1)))) else (none)) else (none)) else (none)) else (none)) else (none)) else (none))) else (none)) else (none)) else (none)) else (none)) else (none)) else (none)) = some r := H
       have A76 := Aside0.mk A760
       clear A760
       by_cases c77 : 12 < (t189.length : Int)
       rotate_left
       ·rw [if_neg c77] at H
        exact absurd H (by simp)
       rw [if_pos c77] at H
       have c77b0 : decide (12 < (t189.length : Int)) = true := decide_eq_true c77
       have c77b1 : decide (12 < t189.length) = true := decide_eq_true (by omega)
       clear c77
       by_cases c78 : 0 ≤ (rd t189 12)
       rotate_left
       ·rw [if_neg c78] at H
        exact absurd H (by simp)
       rw [if_pos c78] at H
       have c78b0 : decide (0 ≤ (rd t189 12)) = true := decide_eq_true c78
       clear c78
       by_cases c79 : (rd t189 12) < (x7_1.length : Int)
       rotate_left
       ·rw [if_neg c79] at H
        exact absurd H (by simp)
       rw [if_pos c79] at H
       have c79b0 : decide ((rd t189 12) < (x7_1.length : Int)) = true := decide_eq_true c79
       clear c79
       by_cases c80 : 13 < (t189.length : Int)
       rotate_left
       ·rw [if_neg c80] at H
        exact absurd H (by simp)
       rw [if_pos c80] at H
       have c80b0 : decide (13 < (t189.length : Int)) = true := decide_eq_true c80
       have c80b1 : decide (13 < t189.length) = true := decide_eq_true (by omega)
       clear c80
       by_cases c81 : 0 ≤ (rd t189 13)
       rotate_left
       ·rw [if_neg c81] at H
        exact absurd H (by simp)
       rw [if_pos c81] at H
       have c81b0 : decide (0 ≤ (rd t189 13)) = true := decide_eq_true c81
       clear c81
       by_cases c82 : (rd t189 13) < (x7_1.length : Int)
       rotate_left
       ·rw [if_neg c82] at H
        exact absurd H (by simp)
       rw [if_pos c82] at H
       have c82b0 : decide ((rd t189 13) < (x7_1.length : Int)) = true := decide_eq_true c82
       clear c82
       replace H := Option.bind_eq_some_iff.mp H
       obtain ⟨t226, A830, H⟩ := H
       replace H : (if 14 < (t189.length : Int) then (if 0 ≤ (rd t189 14) then (if (rd t189 14) < (x7_1.length : Int) then (if 15 < (t189.length : Int) then (if 0 ≤ (rd t189 15) then (if (rd t189 15) < (x7_1.length : Int) then ((bourneref03_g.f t226 3 4 9 14 (rd x7_1 (rd t189 14)) (rd x7_1 (rd t189 15))).bind fun t231 => (bourneref03_compress.l1 k3 l0 x7_1 t231 (wrap64 (x11_3 + 1)))) else (none)) else (none)) else (none)) else (none)) else (none)) else (none)) = some r := H
       have A83 := Aside0.mk A830
       clear A830
       by_cases c84 : 14 < (t189.length : Int)
       rotate_left
       ·rw [if_neg c84] at H
        exact absurd H (by simp)
       rw [if_pos c84] at H
       have c84b0 : decide (14 < (t189.length : Int)) = true := decide_eq_true c84
       have c84b1 : decide (14 < t189.length) = true := decide_eq_true (by omega)
       clear c84
       by_cases c85 : 0 ≤ (rd t189 14)
       rotate_left
       ·rw [if_neg c85] at H
        exact absurd H (by simp)
       rw [if_pos c85] at H
       have c85b0 : decide (0 ≤ (rd t189 14)) = true := decide_eq_true c85
       clear c85
       by_cases c86 : (rd t189 14) < (x7_1.length : Int)
       rotate_left
       ·rw [if_neg c86] at H
        exact absurd H (by simp)
       rw [if_pos c86] at H
       have c86b0 : decide ((rd t189 14) < (x7_1.length : Int)) = true := decide_eq_true c86
       clear c86
       by_cases c87 : 15 < (t189.length : Int)
       rotate_left
       ·rw [if_neg c87] at H
        exact absurd H (by simp)
       rw [if_pos c87] at H
       have c87b0 : decide (15 < (t189.length : Int)) = true := decide_eq_true c87
       have c87b1 : decide (15 < t189.length) = true := decide_eq_true (by omega)
       clear c87
       by_cases c88 : 0 ≤ (rd t189 15)
       rotate_left
       ·rw [if_neg c88] at H
        exact absurd H (by simp)
       rw [if_pos c88] at H
       have c88b0 : decide (0 ≤ (rd t189 15)) = true := decide_eq_true c88
       clear c88
       by_cases c89 : (rd t189 15) < (x7_1.length : Int)
       rotate_left
       ·rw [if_neg c89] at H
        exact absurd H (by simp)
       rw [if_pos c89] at H
       have c89b0 : decide ((rd t189 15) < (x7_1.length : Int)) = true := decide_eq_true c89
       clear c89
       replace H := Option.bind_eq_some_iff.mp H
       obtain ⟨t231, A900, H⟩ := H
       replace H : (bourneref03_compress.l1 k3 l0 x7_1 t231 (wrap64 (x11_3 + 1))) = some r := H
       have A90 := Aside0.mk A900
       clear A900
       have H' := Aside0.mk H
       clear H
       try go_wp2_with (first | ((with_reducible refine gate_callee (f := 129) rfl ?_); refine goesL_ (some 72) rfl rfl Tryd.func129 (by kernel_rfl) rfl #[.int .i64 x11_3] rfl (by (try simp only [List.map_toArray, List.map_cons, List.map_nil]); first | done | rfl | (simp only [List.length_drop, List.length_take]; rfl)) ?_; (with_reducible refine (bourneref03_order.calls x11_3 t189 _ A34.out).mono ?_); rintro e w91 ⟨v190, rfl, ho0, hb⟩; refine ⟨_, rfl, ?_⟩; have n0_ := Aside0.mk (Kd.R_below (by (with_reducible repeat (first | apply Kd.R_alloc | apply Kd.R_drewN | apply Kd.R_drew)); exact HO_7.out) hb); have n1_ := Aside0.mk (Kd.R_below (by (with_reducible repeat (first | apply Kd.R_alloc | apply Kd.R_drewN | apply Kd.R_drew)); exact HO_9.out) hb); have n2_ := Aside0.mk (Kd.R_lower ho0 (below_size (by repeat (first | (with_reducible first | exact HB.out | apply below_alloc | apply pw_below_drewN | apply below_drew1) | exact HB.out)))); have n3_ := Aside0.mk (below_step (by repeat (first | (with_reducible first | exact HB.out | apply below_alloc | apply pw_below_drewN | apply below_drew1) | exact HB.out)) hb); clear HO_7; clear HO_9; clear HB; have HO_7 := n0_; have HO_9 := n1_; have HO191 := n2_; have HB := n3_; clear n0_ n1_ n2_ n3_; (try clear hb); (try clear hb2); (try clear hk); (try clear hi); (try clear ho0)))
       have n0_ := Aside0.mk (Kd.R_drew HO_7.out)
       have n1_ := Aside0.mk (Kd.R_drew HO_9.out)
       have n2_ := Aside0.mk (Kd.R_drew HO191.out)
       have n3_ := Aside0.mk (below_drew1 HB.out)
       clear HO_7
       clear HO_9
       clear HO191
       clear HB
       have HO_7 := n0_
       have HO_9 := n1_
       have HO191 := n2_
       have HB := n3_
       clear n0_ n1_ n2_ n3_
       obtain ⟨Ao93, co93, eo93⟩ := Kd.R_slice HO191.out
       (first | subst eo93 | (injection eo93 with f1_ f2_ f3_; have f4_ := f1_.symm; have f5_ := f3_.symm; clear f1_ f2_ f3_; subst f4_; subst f5_))
       have p192 : 0 ≤ (0 : Int) := (by omega)
       have q192 : 0 < (t189.length : Int) := of_decide_eq_true (by first | (with_reducible assumption) | assumption)
       obtain ⟨ad192, e192, hx192_0⟩ := Kd.at_int (Kd.R_reads' HO191.out).2.2 0 p192 q192
       cases e192
       have qi192 : (0 < t189.length) = True := eq_true (by omega)
       (try rw [show ((0 : Int)).toNat = 0 from rfl] at hx192_0)
       (try rw [Addr.add_zero'] at hx192_0)
       replace p192 := eq_true p192
       replace q192 := eq_true q192
       obtain ⟨Ao94, co94, eo94⟩ := Kd.R_slice HO_7.out
       (first | subst eo94 | (injection eo94 with f1_ f2_ f3_; have f4_ := f1_.symm; have f5_ := f3_.symm; clear f1_ f2_ f3_; subst f4_; subst f5_))
       have p193 : 0 ≤ ((rd t189 0) : Int) := of_decide_eq_true (by first | (with_reducible assumption) | assumption)
       have q193 : (rd t189 0) < (x7_1.length : Int) := of_decide_eq_true (by first | (with_reducible assumption) | assumption)
       obtain ⟨ad193, e193, hx193_0⟩ := Kd.at_int (Kd.R_reads' HO_7.out).2.2 (rd t189 0) p193 q193
       cases e193
       replace p193 := eq_true p193
       replace q193 := eq_true q193
       have p194 : 0 ≤ (1 : Int) := (by omega)
       have q194 : 1 < (t189.length : Int) := of_decide_eq_true (by first | (with_reducible assumption) | assumption)
       obtain ⟨ad194, e194, hx194_0⟩ := Kd.at_int (Kd.R_reads' HO191.out).2.2 1 p194 q194
       obtain rfl : ad192 = ad194 := (by injection e194)
       (try simp only [show (1 : Int).toNat = 1 from rfl, Nat.reduceMul, Nat.reduceEqDiff, Go.Addr.add, ↓reduceIte] at hx194_0)
       have qi194 : (1 < t189.length) = True := eq_true (by omega)
       (try rw [show ((1 : Int)).toNat = 1 from rfl] at hx194_0)
       replace p194 := eq_true p194
       replace q194 := eq_true q194
       have p195 : 0 ≤ ((rd t189 1) : Int) := of_decide_eq_true (by first | (with_reducible assumption) | assumption)
       have q195 : (rd t189 1) < (x7_1.length : Int) := of_decide_eq_true (by first | (with_reducible assumption) | assumption)
       obtain ⟨ad195, e195, hx195_0⟩ := Kd.at_int (Kd.R_reads' HO_7.out).2.2 (rd t189 1) p195 q195
       obtain rfl : ad193 = ad195 := (by injection e195)
       replace p195 := eq_true p195
       replace q195 := eq_true q195
       refine start_ (n := 14) (S := fun w' => w'.cell? ad192 = some (.int .i64 (rd t189 0)) ∧ w'.cell? (ad193.add ((rd t189 0)).toNat) = some (.int .u32 (rd x7_1 (rd t189 0))) ∧ w'.cell? ⟨ad192.block, ad192.off + 1, none⟩ = some (.int .i64 (rd t189 1)) ∧ w'.cell? (ad193.add ((rd t189 1)).toNat) = some (.int .u32 (rd x7_1 (rd t189 1)))) (ds := []) #[false, false, false, false, false, false, false, false, false, false, false, false, false, false] (by kernel_rfl) rfl rfl ⟨hx192_0, hx193_0, hx194_0, hx195_0⟩ (fun hHeld => ?_); refine with_tabW bourneref03_compress.tab17 bourneref03_compress.bits17 (fun HT_ HW_ => ?_)
       generalize w91.drew = w92 at HO_7 HO_9 HO191 HB hx192_0 hx193_0 hx194_0 hx195_0 hHeld ⊢
       refine pure_ (i := 0) (N := some 73) (v := ?_) (a' := ?_) #[true, false, false, false, false, false, false, false, false, false, false, false, false, false] rfl rfl (any_of HT_.out (by kernel_rfl)) (fun _ _ _ h => h) (Or.inl ⟨by rfl, ?_⟩) ?_ ?_
       rotate_left
       ·intro w'
        go_simp
        with_reducible rfl
       rotate_left
       ·simp only [Act.put, List.setIfInBounds_toArray, List.set_cons_zero, List.set_cons_succ, i64_w, i32_w]
        rfl
       refine pure_ (i := 1) (N := some 74) (v := ?_) (a' := ?_) #[true, true, false, false, false, false, false, false, false, false, false, false, false, false] rfl rfl (any_of HT_.out (by kernel_rfl)) (fun _ _ _ h => h) (Or.inl ⟨by rfl, ?_⟩) ?_ ?_
       rotate_left
       ·intro w'
        go_simp
        with_reducible rfl
       rotate_left
       ·simp only [Act.put, List.setIfInBounds_toArray, List.set_cons_zero, List.set_cons_succ, i64_w, i32_w]
        rfl
       refine pure_ (i := 2) (N := some 75) (v := ?_) (a' := ?_) #[true, true, true, false, false, false, false, false, false, false, false, false, false, false] rfl rfl (any_of HT_.out (by kernel_rfl)) (fun _ _ _ h => h) (Or.inl ⟨by rfl, ?_⟩) ?_ ?_
       rotate_left
       ·intro w'
        go_simp
        with_reducible rfl
       rotate_left
       ·simp only [Act.put, List.setIfInBounds_toArray, List.set_cons_zero, List.set_cons_succ, i64_w, i32_w]
        rfl
       refine pure_ (i := 3) (N := some 76) (v := ?_) (a' := ?_) #[true, true, true, true, false, false, false, false, false, false, false, false, false, false] rfl rfl (any_of HT_.out (by kernel_rfl)) (fun _ _ _ h => h) (Or.inl ⟨by rfl, ?_⟩) ?_ ?_
       rotate_left
       ·intro w'
        go_simp
        with_reducible rfl
       rotate_left
       ·simp only [Act.put, List.setIfInBounds_toArray, List.set_cons_zero, List.set_cons_succ, i64_w, i32_w]
        rfl
       refine pure_ (i := 7) (N := some 80) (v := ?_) (a' := ?_) #[true, true, true, true, false, false, false, true, false, false, false, false, false, false] rfl rfl (any_of HT_.out (by kernel_rfl)) (fun _ _ _ h => h) (Or.inl ⟨by rfl, ?_⟩) ?_ ?_
       rotate_left
       ·intro w'
        go_simp
        with_reducible rfl
       rotate_left
       ·simp only [Act.put, List.setIfInBounds_toArray, List.set_cons_zero, List.set_cons_succ, i64_w, i32_w]
        rfl
       refine pure_ (i := 8) (N := some 81) (v := ?_) (a' := ?_) #[true, true, true, true, false, false, false, true, true, false, false, false, false, false] rfl rfl (any_of HT_.out (by kernel_rfl)) (fun _ _ _ h => h) (Or.inl ⟨by rfl, ?_⟩) ?_ ?_
       rotate_left
       ·intro w'
        go_simp
        with_reducible rfl
       rotate_left
       ·simp only [Act.put, List.setIfInBounds_toArray, List.set_cons_zero, List.set_cons_succ, i64_w, i32_w]
        rfl
       refine pure_ (i := 9) (N := some 82) (v := ?_) (a' := ?_) #[true, true, true, true, false, false, false, true, true, true, false, false, false, false] rfl rfl (any_of HT_.out (by kernel_rfl)) (fun _ _ _ h => h) (Or.inl ⟨by rfl, ?_⟩) ?_ ?_
       rotate_left
       ·intro w'
        go_simp
        with_reducible rfl
       rotate_left
       ·simp only [Act.put, List.setIfInBounds_toArray, List.set_cons_zero, List.set_cons_succ, i64_w, i32_w]
        rfl
       refine take_ (i := 4) (N := some 77) (v := ?_) (a' := ?_) #[true, true, true, true, true, false, false, true, true, true, false, false, false, false] rfl rfl (take_ofW HT_.out HW_.out (by kernel_rfl)) (fun _ _ _ h => h) (Or.inl ⟨by rfl, ?_⟩) hHeld ?_ ?_
       rotate_left
       ·rintro w' ⟨s0, s1, s2, s3⟩
        go_simp
        with_reducible rfl
       rotate_left
       ·simp only [Act.put, List.setIfInBounds_toArray, List.set_cons_zero, List.set_cons_succ, i64_w, i32_w]
        rfl
       refine pure_ (i := 5) (N := some 78) (v := ?_) (a' := ?_) #[true, true, true, true, true, true, false, true, true, true, false, false, false, false] rfl rfl (any_of HT_.out (by kernel_rfl)) (fun _ _ _ h => h) (Or.inl ⟨by rfl, ?_⟩) ?_ ?_
       rotate_left
       ·intro w'
        go_simp
        with_reducible rfl
       rotate_left
       ·simp only [Act.put, List.setIfInBounds_toArray, List.set_cons_zero, List.set_cons_succ, i64_w, i32_w]
        rfl
       refine take_ (i := 6) (N := some 79) (v := ?_) (a' := ?_) #[true, true, true, true, true, true, true, true, true, true, false, false, false, false] rfl rfl (take_ofW HT_.out HW_.out (by kernel_rfl)) (fun _ _ _ h => h) (Or.inl ⟨by rfl, ?_⟩) hHeld ?_ ?_
       rotate_left
       ·rintro w' ⟨s0, s1, s2, s3⟩
        go_simp
        with_reducible rfl
       rotate_left
       ·simp only [Act.put, List.setIfInBounds_toArray, List.set_cons_zero, List.set_cons_succ, i64_w, i32_w]
        rfl
       refine take_ (i := 10) (N := some 83) (v := ?_) (a' := ?_) #[true, true, true, true, true, true, true, true, true, true, true, false, false, false] rfl rfl (take_ofW HT_.out HW_.out (by kernel_rfl)) (fun _ _ _ h => h) (Or.inl ⟨by rfl, ?_⟩) hHeld ?_ ?_
       rotate_left
       ·rintro w' ⟨s0, s1, s2, s3⟩
        go_simp
        with_reducible rfl
       rotate_left
       ·simp only [Act.put, List.setIfInBounds_toArray, List.set_cons_zero, List.set_cons_succ, i64_w, i32_w]
        rfl
       refine pure_ (i := 11) (N := some 84) (v := ?_) (a' := ?_) #[true, true, true, true, true, true, true, true, true, true, true, true, false, false] rfl rfl (any_of HT_.out (by kernel_rfl)) (fun _ _ _ h => h) (Or.inl ⟨by rfl, ?_⟩) ?_ ?_
       rotate_left
       ·intro w'
        go_simp
        with_reducible rfl
       rotate_left
       ·simp only [Act.put, List.setIfInBounds_toArray, List.set_cons_zero, List.set_cons_succ, i64_w, i32_w]
        rfl
       refine take_ (i := 12) (N := some 85) (v := ?_) (a' := ?_) #[true, true, true, true, true, true, true, true, true, true, true, true, true, false] rfl rfl (take_ofW HT_.out HW_.out (by kernel_rfl)) (fun _ _ _ h => h) (Or.inl ⟨by rfl, ?_⟩) hHeld ?_ ?_
       rotate_left
       ·rintro w' ⟨s0, s1, s2, s3⟩
        go_simp
        with_reducible rfl
       rotate_left
       ·simp only [Act.put, List.setIfInBounds_toArray, List.set_cons_zero, List.set_cons_succ, i64_w, i32_w]
        rfl
       refine one_ (i := 13) (N := some 86) #[true, true, true, true, true, true, true, true, true, true, true, true, true, true] rfl rfl (one_of HT_.out (by kernel_rfl)) (by decide) (fun K hK => ?_)
       refine goes_ Tryd.func130 (by kernel_rfl) rfl #[.slice (some ⟨go13, 0, none⟩) x9_3.length co23, .int .i64 0, .int .i64 4, .int .i64 8, .int .i64 12, .int .u32 (rd x7_1 (rd t189 0)), .int .u32 (rd x7_1 (rd t189 1))] (by rfl) rfl rfl (by (try simp only [List.map_toArray, List.map_cons, List.map_nil]); first | done | rfl | (simp only [List.length_drop, List.length_take]; rfl)) ?_
       with_reducible refine (bourneref03_g.calls (fun k_ => some k_ = (.slice (some ⟨go13, 0, none⟩) x9_3.length co23 : Value).ownBlock) (.slice (some ⟨go13, 0, none⟩) x9_3.length co23) x9_3 0 4 8 12 (rd x7_1 (rd t189 0)) (rd x7_1 (rd t189 1)) t196 w _ ?side1 ?side2 A41.out).mono ?_
       (case side1 => repeat (first | (with_reducible first | exact HB.out | apply below_alloc | apply pw_below_drewN | apply below_drew1) | exact HB.out))
       (case side2 => exact Kd.R_tight rfl HO_9.out)
       rintro e w95 ⟨rfl, hy0, hb, hkp⟩
       have HS0_ := cell_kept (hHeld.1) hkp (by first | (rw [add_block]; exact (fun hs_ => ((((Kd.R_apart' HO191.out (Kd.R_typed HO_9.out) (by decide))).1 _ rfl).2) hs_)) | (show ¬ _; simp only [add_block]; exact (fun hs_ => ((((Kd.R_apart' HO191.out (Kd.R_typed HO_9.out) (by decide))).1 _ rfl).2) hs_)) | exact (fun hs_ => ((((Kd.R_apart' HO191.out (Kd.R_typed HO_9.out) (by decide))).1 _ rfl).2) hs_))
       have HS1_ := cell_kept (hHeld.2.1) hkp (by first | (rw [add_block]; exact (fun hs_ => (((HO_7.out).1 _ rfl)) hs_)) | (show ¬ _; simp only [add_block]; exact (fun hs_ => (((HO_7.out).1 _ rfl)) hs_)) | exact (fun hs_ => (((HO_7.out).1 _ rfl)) hs_))
       have HS2_ := cell_kept (hHeld.2.2.1) hkp (by first | (rw [add_block]; exact (fun hs_ => ((((Kd.R_apart' HO191.out (Kd.R_typed HO_9.out) (by decide))).1 _ rfl).2) hs_)) | (show ¬ _; simp only [add_block]; exact (fun hs_ => ((((Kd.R_apart' HO191.out (Kd.R_typed HO_9.out) (by decide))).1 _ rfl).2) hs_)) | exact (fun hs_ => ((((Kd.R_apart' HO191.out (Kd.R_typed HO_9.out) (by decide))).1 _ rfl).2) hs_))
       have HS3_ := cell_kept (hHeld.2.2.2) hkp (by first | (rw [add_block]; exact (fun hs_ => (((HO_7.out).1 _ rfl)) hs_)) | (show ¬ _; simp only [add_block]; exact (fun hs_ => (((HO_7.out).1 _ rfl)) hs_)) | exact (fun hs_ => (((HO_7.out).1 _ rfl)) hs_))
       refine ⟨_, rfl, ?_⟩
       have n0_ := Aside0.mk (Kd.R_mono (ok' := fun k_ => some k_ ≠ (.slice (some ⟨go13, 0, none⟩) x9_3.length co23 : Value).ownBlock) (Kd.R_keptB (HO_7.out) hkp (fun k_ hk_ hs_ => (hk_) hs_)) (fun k_ hk_ => hk_.1))
       have n1_ := Aside0.mk (Kd.R_reok rfl hy0 (fun k_ e_ => HO_9.out.1 k_ e_))
       have n2_ := Aside0.mk (Kd.R_mono (ok' := fun k_ => True) (Kd.R_keptB ((Kd.R_apart' HO191.out (Kd.R_typed HO_9.out) (by decide))) hkp (fun k_ hk_ hs_ => (hk_.2) hs_)) (fun k_ hk_ => trivial))
       have n3_ := Aside0.mk (hb)
       clear HO_7
       clear HO_9
       clear HO191
       clear HB
       have HO_7 := n0_
       have HO_9 := n1_
       have HO191 := n2_
       have HB := n3_
       clear n0_ n1_ n2_ n3_
       (try clear hb)
       (try clear hkp)
       (try clear hy0)
       refine hK.out _ _ ⟨HS0_, HS1_, HS2_, HS3_⟩ (fun hHeld => ?_)
       clear hK K
       refine norm_ (a' := ?_) ?_ ?_
       rotate_left
       ·show Act.put _ (some 86) _ = _
        simp only [Act.put, List.setIfInBounds_toArray, List.set_cons_zero, List.set_cons_succ, i64_w, i32_w]
        rfl
       refine done_ (done_of HT_.out (by kernel_rfl)) ?_
       try go_wp2
       have n0_ := Aside0.mk (Kd.R_drew HO_7.out)
       have n1_ := Aside0.mk (Kd.R_drew HO_9.out)
       have n2_ := Aside0.mk (Kd.R_drew HO191.out)
       have n3_ := Aside0.mk (below_drew1 HB.out)
       clear HO_7
       clear HO_9
       clear HO191
       clear HB
       have HO_7 := n0_
       have HO_9 := n1_
       have HO191 := n2_
       have HB := n3_
       clear n0_ n1_ n2_ n3_
       have p197 : 0 ≤ (2 : Int) := (by omega)
       have q197 : 2 < (t189.length : Int) := of_decide_eq_true (by first | (with_reducible assumption) | assumption)
       obtain ⟨ad197, e197, hx197_0⟩ := Kd.at_int (Kd.R_reads' HO191.out).2.2 2 p197 q197
       obtain rfl : ad192 = ad197 := (by injection e197)
       (try simp only [show (2 : Int).toNat = 2 from rfl, Nat.reduceMul, Nat.reduceEqDiff, Go.Addr.add, ↓reduceIte] at hx197_0)
       have qi197 : (2 < t189.length) = True := eq_true (by omega)
       (try rw [show ((2 : Int)).toNat = 2 from rfl] at hx197_0)
       replace p197 := eq_true p197
       replace q197 := eq_true q197
       have p198 : 0 ≤ ((rd t189 2) : Int) := of_decide_eq_true (by first | (with_reducible assumption) | assumption)
       have q198 : (rd t189 2) < (x7_1.length : Int) := of_decide_eq_true (by first | (with_reducible assumption) | assumption)
       obtain ⟨ad198, e198, hx198_0⟩ := Kd.at_int (Kd.R_reads' HO_7.out).2.2 (rd t189 2) p198 q198
       obtain rfl : ad193 = ad198 := (by injection e198)
       replace p198 := eq_true p198
       replace q198 := eq_true q198
       have p199 : 0 ≤ (3 : Int) := (by omega)
       have q199 : 3 < (t189.length : Int) := of_decide_eq_true (by first | (with_reducible assumption) | assumption)
       obtain ⟨ad199, e199, hx199_0⟩ := Kd.at_int (Kd.R_reads' HO191.out).2.2 3 p199 q199
       obtain rfl : ad192 = ad199 := (by injection e199)
       (try simp only [show (3 : Int).toNat = 3 from rfl, Nat.reduceMul, Nat.reduceEqDiff, Go.Addr.add, ↓reduceIte] at hx199_0)
       have qi199 : (3 < t189.length) = True := eq_true (by omega)
       (try rw [show ((3 : Int)).toNat = 3 from rfl] at hx199_0)
       replace p199 := eq_true p199
       replace q199 := eq_true q199
       have p200 : 0 ≤ ((rd t189 3) : Int) := of_decide_eq_true (by first | (with_reducible assumption) | assumption)
       have q200 : (rd t189 3) < (x7_1.length : Int) := of_decide_eq_true (by first | (with_reducible assumption) | assumption)
       obtain ⟨ad200, e200, hx200_0⟩ := Kd.at_int (Kd.R_reads' HO_7.out).2.2 (rd t189 3) p200 q200
       obtain rfl : ad193 = ad200 := (by injection e200)
       replace p200 := eq_true p200
       replace q200 := eq_true q200
       refine start_ (n := 14) (S := fun w' => w'.cell? ⟨ad192.block, ad192.off + 2, none⟩ = some (.int .i64 (rd t189 2)) ∧ w'.cell? (ad193.add ((rd t189 2)).toNat) = some (.int .u32 (rd x7_1 (rd t189 2))) ∧ w'.cell? ⟨ad192.block, ad192.off + 3, none⟩ = some (.int .i64 (rd t189 3)) ∧ w'.cell? (ad193.add ((rd t189 3)).toNat) = some (.int .u32 (rd x7_1 (rd t189 3)))) (ds := []) #[false, false, false, false, false, false, false, false, false, false, false, false, false, false] (by kernel_rfl) rfl rfl ⟨hx197_0, hx198_0, hx199_0, hx200_0⟩ (fun hHeld => ?_); refine with_tabW bourneref03_compress.tab18 bourneref03_compress.bits18 (fun HT_ HW_ => ?_)
       generalize w95.drew = w96 at HO_7 HO_9 HO191 HB hx197_0 hx198_0 hx199_0 hx200_0 hHeld ⊢
       refine pure_ (i := 0) (N := some 87) (v := ?_) (a' := ?_) #[true, false, false, false, false, false, false, false, false, false, false, false, false, false] rfl rfl (any_of HT_.out (by kernel_rfl)) (fun _ _ _ h => h) (Or.inl ⟨by rfl, ?_⟩) ?_ ?_
       rotate_left
       ·intro w'
        go_simp
        with_reducible rfl
       rotate_left
       ·simp only [Act.put, List.setIfInBounds_toArray, List.set_cons_zero, List.set_cons_succ, i64_w, i32_w]
        rfl
       refine pure_ (i := 1) (N := some 88) (v := ?_) (a' := ?_) #[true, true, false, false, false, false, false, false, false, false, false, false, false, false] rfl rfl (any_of HT_.out (by kernel_rfl)) (fun _ _ _ h => h) (Or.inl ⟨by rfl, ?_⟩) ?_ ?_
       rotate_left
       ·intro w'
        go_simp
        with_reducible rfl
       rotate_left
       ·simp only [Act.put, List.setIfInBounds_toArray, List.set_cons_zero, List.set_cons_succ, i64_w, i32_w]
        rfl
       refine pure_ (i := 2) (N := some 89) (v := ?_) (a' := ?_) #[true, true, true, false, false, false, false, false, false, false, false, false, false, false] rfl rfl (any_of HT_.out (by kernel_rfl)) (fun _ _ _ h => h) (Or.inl ⟨by rfl, ?_⟩) ?_ ?_
       rotate_left
       ·intro w'
        go_simp
        with_reducible rfl
       rotate_left
       ·simp only [Act.put, List.setIfInBounds_toArray, List.set_cons_zero, List.set_cons_succ, i64_w, i32_w]
        rfl
       refine pure_ (i := 3) (N := some 90) (v := ?_) (a' := ?_) #[true, true, true, true, false, false, false, false, false, false, false, false, false, false] rfl rfl (any_of HT_.out (by kernel_rfl)) (fun _ _ _ h => h) (Or.inl ⟨by rfl, ?_⟩) ?_ ?_
       rotate_left
       ·intro w'
        go_simp
        with_reducible rfl
       rotate_left
       ·simp only [Act.put, List.setIfInBounds_toArray, List.set_cons_zero, List.set_cons_succ, i64_w, i32_w]
        rfl
       refine pure_ (i := 7) (N := some 94) (v := ?_) (a' := ?_) #[true, true, true, true, false, false, false, true, false, false, false, false, false, false] rfl rfl (any_of HT_.out (by kernel_rfl)) (fun _ _ _ h => h) (Or.inl ⟨by rfl, ?_⟩) ?_ ?_
       rotate_left
       ·intro w'
        go_simp
        with_reducible rfl
       rotate_left
       ·simp only [Act.put, List.setIfInBounds_toArray, List.set_cons_zero, List.set_cons_succ, i64_w, i32_w]
        rfl
       refine pure_ (i := 8) (N := some 95) (v := ?_) (a' := ?_) #[true, true, true, true, false, false, false, true, true, false, false, false, false, false] rfl rfl (any_of HT_.out (by kernel_rfl)) (fun _ _ _ h => h) (Or.inl ⟨by rfl, ?_⟩) ?_ ?_
       rotate_left
       ·intro w'
        go_simp
        with_reducible rfl
       rotate_left
       ·simp only [Act.put, List.setIfInBounds_toArray, List.set_cons_zero, List.set_cons_succ, i64_w, i32_w]
        rfl
       refine pure_ (i := 9) (N := some 96) (v := ?_) (a' := ?_) #[true, true, true, true, false, false, false, true, true, true, false, false, false, false] rfl rfl (any_of HT_.out (by kernel_rfl)) (fun _ _ _ h => h) (Or.inl ⟨by rfl, ?_⟩) ?_ ?_
       rotate_left
       ·intro w'
        go_simp
        with_reducible rfl
       rotate_left
       ·simp only [Act.put, List.setIfInBounds_toArray, List.set_cons_zero, List.set_cons_succ, i64_w, i32_w]
        rfl
       refine take_ (i := 4) (N := some 91) (v := ?_) (a' := ?_) #[true, true, true, true, true, false, false, true, true, true, false, false, false, false] rfl rfl (take_ofW HT_.out HW_.out (by kernel_rfl)) (fun _ _ _ h => h) (Or.inl ⟨by rfl, ?_⟩) hHeld ?_ ?_
       rotate_left
       ·rintro w' ⟨s0, s1, s2, s3⟩
        go_simp
        with_reducible rfl
       rotate_left
       ·simp only [Act.put, List.setIfInBounds_toArray, List.set_cons_zero, List.set_cons_succ, i64_w, i32_w]
        rfl
       refine pure_ (i := 5) (N := some 92) (v := ?_) (a' := ?_) #[true, true, true, true, true, true, false, true, true, true, false, false, false, false] rfl rfl (any_of HT_.out (by kernel_rfl)) (fun _ _ _ h => h) (Or.inl ⟨by rfl, ?_⟩) ?_ ?_
       rotate_left
       ·intro w'
        go_simp
        with_reducible rfl
       rotate_left
       ·simp only [Act.put, List.setIfInBounds_toArray, List.set_cons_zero, List.set_cons_succ, i64_w, i32_w]
        rfl
       refine take_ (i := 6) (N := some 93) (v := ?_) (a' := ?_) #[true, true, true, true, true, true, true, true, true, true, false, false, false, false] rfl rfl (take_ofW HT_.out HW_.out (by kernel_rfl)) (fun _ _ _ h => h) (Or.inl ⟨by rfl, ?_⟩) hHeld ?_ ?_
       rotate_left
       ·rintro w' ⟨s0, s1, s2, s3⟩
        go_simp
        with_reducible rfl
       rotate_left
       ·simp only [Act.put, List.setIfInBounds_toArray, List.set_cons_zero, List.set_cons_succ, i64_w, i32_w]
        rfl
       refine take_ (i := 10) (N := some 97) (v := ?_) (a' := ?_) #[true, true, true, true, true, true, true, true, true, true, true, false, false, false] rfl rfl (take_ofW HT_.out HW_.out (by kernel_rfl)) (fun _ _ _ h => h) (Or.inl ⟨by rfl, ?_⟩) hHeld ?_ ?_
       rotate_left
       ·rintro w' ⟨s0, s1, s2, s3⟩
        go_simp
        with_reducible rfl
       rotate_left
       ·simp only [Act.put, List.setIfInBounds_toArray, List.set_cons_zero, List.set_cons_succ, i64_w, i32_w]
        rfl
       refine pure_ (i := 11) (N := some 98) (v := ?_) (a' := ?_) #[true, true, true, true, true, true, true, true, true, true, true, true, false, false] rfl rfl (any_of HT_.out (by kernel_rfl)) (fun _ _ _ h => h) (Or.inl ⟨by rfl, ?_⟩) ?_ ?_
       rotate_left
       ·intro w'
        go_simp
        with_reducible rfl
       rotate_left
       ·simp only [Act.put, List.setIfInBounds_toArray, List.set_cons_zero, List.set_cons_succ, i64_w, i32_w]
        rfl
       refine take_ (i := 12) (N := some 99) (v := ?_) (a' := ?_) #[true, true, true, true, true, true, true, true, true, true, true, true, true, false] rfl rfl (take_ofW HT_.out HW_.out (by kernel_rfl)) (fun _ _ _ h => h) (Or.inl ⟨by rfl, ?_⟩) hHeld ?_ ?_
       rotate_left
       ·rintro w' ⟨s0, s1, s2, s3⟩
        go_simp
        with_reducible rfl
       rotate_left
       ·simp only [Act.put, List.setIfInBounds_toArray, List.set_cons_zero, List.set_cons_succ, i64_w, i32_w]
        rfl
       refine one_ (i := 13) (N := some 100) #[true, true, true, true, true, true, true, true, true, true, true, true, true, true] rfl rfl (one_of HT_.out (by kernel_rfl)) (by decide) (fun K hK => ?_)
       refine goes_ Tryd.func130 (by kernel_rfl) rfl #[.slice (some ⟨go13, 0, none⟩) x9_3.length co23, .int .i64 1, .int .i64 5, .int .i64 9, .int .i64 13, .int .u32 (rd x7_1 (rd t189 2)), .int .u32 (rd x7_1 (rd t189 3))] (by rfl) rfl rfl (by (try simp only [List.map_toArray, List.map_cons, List.map_nil]); first | done | rfl | (simp only [List.length_drop, List.length_take]; rfl)) ?_
       with_reducible refine (bourneref03_g.calls (fun k_ => some k_ = (.slice (some ⟨go13, 0, none⟩) x9_3.length co23 : Value).ownBlock) (.slice (some ⟨go13, 0, none⟩) x9_3.length co23) t196 1 5 9 13 (rd x7_1 (rd t189 2)) (rd x7_1 (rd t189 3)) t201 w _ ?side1 ?side2 A48.out).mono ?_
       (case side1 => repeat (first | (with_reducible first | exact HB.out | apply below_alloc | apply pw_below_drewN | apply below_drew1) | exact HB.out))
       (case side2 => exact Kd.R_tight rfl HO_9.out)
       rintro e w97 ⟨rfl, hy0, hb, hkp⟩
       have HS0_ := cell_kept (hHeld.1) hkp (by first | (rw [add_block]; exact (fun hs_ => ((((Kd.R_apart' HO191.out (Kd.R_typed HO_9.out) (by decide))).1 _ rfl).2) hs_)) | (show ¬ _; simp only [add_block]; exact (fun hs_ => ((((Kd.R_apart' HO191.out (Kd.R_typed HO_9.out) (by decide))).1 _ rfl).2) hs_)) | exact (fun hs_ => ((((Kd.R_apart' HO191.out (Kd.R_typed HO_9.out) (by decide))).1 _ rfl).2) hs_))
       have HS1_ := cell_kept (hHeld.2.1) hkp (by first | (rw [add_block]; exact (fun hs_ => (((HO_7.out).1 _ rfl)) hs_)) | (show ¬ _; simp only [add_block]; exact (fun hs_ => (((HO_7.out).1 _ rfl)) hs_)) | exact (fun hs_ => (((HO_7.out).1 _ rfl)) hs_))
       have HS2_ := cell_kept (hHeld.2.2.1) hkp (by first | (rw [add_block]; exact (fun hs_ => ((((Kd.R_apart' HO191.out (Kd.R_typed HO_9.out) (by decide))).1 _ rfl).2) hs_)) | (show ¬ _; simp only [add_block]; exact (fun hs_ => ((((Kd.R_apart' HO191.out (Kd.R_typed HO_9.out) (by decide))).1 _ rfl).2) hs_)) | exact (fun hs_ => ((((Kd.R_apart' HO191.out (Kd.R_typed HO_9.out) (by decide))).1 _ rfl).2) hs_))
       have HS3_ := cell_kept (hHeld.2.2.2) hkp (by first | (rw [add_block]; exact (fun hs_ => (((HO_7.out).1 _ rfl)) hs_)) | (show ¬ _; simp only [add_block]; exact (fun hs_ => (((HO_7.out).1 _ rfl)) hs_)) | exact (fun hs_ => (((HO_7.out).1 _ rfl)) hs_))
       refine ⟨_, rfl, ?_⟩
       have n0_ := Aside0.mk (Kd.R_mono (ok' := fun k_ => some k_ ≠ (.slice (some ⟨go13, 0, none⟩) x9_3.length co23 : Value).ownBlock) (Kd.R_keptB (HO_7.out) hkp (fun k_ hk_ hs_ => (hk_) hs_)) (fun k_ hk_ => hk_.1))
       have n1_ := Aside0.mk (Kd.R_reok rfl hy0 (fun k_ e_ => HO_9.out.1 k_ e_))
       have n2_ := Aside0.mk (Kd.R_mono (ok' := fun k_ => True) (Kd.R_keptB ((Kd.R_apart' HO191.out (Kd.R_typed HO_9.out) (by decide))) hkp (fun k_ hk_ hs_ => (hk_.2) hs_)) (fun k_ hk_ => trivial))
       have n3_ := Aside0.mk (hb)
       clear HO_7
       clear HO_9
       clear HO191
       clear HB
       have HO_7 := n0_
       have HO_9 := n1_
       have HO191 := n2_
       have HB := n3_
       clear n0_ n1_ n2_ n3_
       (try clear hb)
       (try clear hkp)
       (try clear hy0)
       refine hK.out _ _ ⟨HS0_, HS1_, HS2_, HS3_⟩ (fun hHeld => ?_)
       clear hK K
       refine norm_ (a' := ?_) ?_ ?_
       rotate_left
       ·show Act.put _ (some 100) _ = _
        simp only [Act.put, List.setIfInBounds_toArray, List.set_cons_zero, List.set_cons_succ, i64_w, i32_w]
        rfl
       refine done_ (done_of HT_.out (by kernel_rfl)) ?_
       try go_wp2
       have n0_ := Aside0.mk (Kd.R_drew HO_7.out)
       have n1_ := Aside0.mk (Kd.R_drew HO_9.out)
       have n2_ := Aside0.mk (Kd.R_drew HO191.out)
       have n3_ := Aside0.mk (below_drew1 HB.out)
       clear HO_7
       clear HO_9
       clear HO191
       clear HB
       have HO_7 := n0_
       have HO_9 := n1_
       have HO191 := n2_
       have HB := n3_
       clear n0_ n1_ n2_ n3_
       have p202 : 0 ≤ (4 : Int) := (by omega)
       have q202 : 4 < (t189.length : Int) := of_decide_eq_true (by first | (with_reducible assumption) | assumption)
       obtain ⟨ad202, e202, hx202_0⟩ := Kd.at_int (Kd.R_reads' HO191.out).2.2 4 p202 q202
       obtain rfl : ad192 = ad202 := (by injection e202)
       (try simp only [show (4 : Int).toNat = 4 from rfl, Nat.reduceMul, Nat.reduceEqDiff, Go.Addr.add, ↓reduceIte] at hx202_0)
       have qi202 : (4 < t189.length) = True := eq_true (by omega)
       (try rw [show ((4 : Int)).toNat = 4 from rfl] at hx202_0)
       replace p202 := eq_true p202
       replace q202 := eq_true q202
       have p203 : 0 ≤ ((rd t189 4) : Int) := of_decide_eq_true (by first | (with_reducible assumption) | assumption)
       have q203 : (rd t189 4) < (x7_1.length : Int) := of_decide_eq_true (by first | (with_reducible assumption) | assumption)
       obtain ⟨ad203, e203, hx203_0⟩ := Kd.at_int (Kd.R_reads' HO_7.out).2.2 (rd t189 4) p203 q203
       obtain rfl : ad193 = ad203 := (by injection e203)
       replace p203 := eq_true p203
       replace q203 := eq_true q203
       have p204 : 0 ≤ (5 : Int) := (by omega)
       have q204 : 5 < (t189.length : Int) := of_decide_eq_true (by first | (with_reducible assumption) | assumption)
       obtain ⟨ad204, e204, hx204_0⟩ := Kd.at_int (Kd.R_reads' HO191.out).2.2 5 p204 q204
       obtain rfl : ad192 = ad204 := (by injection e204)
       (try simp only [show (5 : Int).toNat = 5 from rfl, Nat.reduceMul, Nat.reduceEqDiff, Go.Addr.add, ↓reduceIte] at hx204_0)
       have qi204 : (5 < t189.length) = True := eq_true (by omega)
       (try rw [show ((5 : Int)).toNat = 5 from rfl] at hx204_0)
       replace p204 := eq_true p204
       replace q204 := eq_true q204
       have p205 : 0 ≤ ((rd t189 5) : Int) := of_decide_eq_true (by first | (with_reducible assumption) | assumption)
       have q205 : (rd t189 5) < (x7_1.length : Int) := of_decide_eq_true (by first | (with_reducible assumption) | assumption)
       obtain ⟨ad205, e205, hx205_0⟩ := Kd.at_int (Kd.R_reads' HO_7.out).2.2 (rd t189 5) p205 q205
       obtain rfl : ad193 = ad205 := (by injection e205)
       replace p205 := eq_true p205
       replace q205 := eq_true q205
       refine start_ (n := 14) (S := fun w' => w'.cell? ⟨ad192.block, ad192.off + 4, none⟩ = some (.int .i64 (rd t189 4)) ∧ w'.cell? (ad193.add ((rd t189 4)).toNat) = some (.int .u32 (rd x7_1 (rd t189 4))) ∧ w'.cell? ⟨ad192.block, ad192.off + 5, none⟩ = some (.int .i64 (rd t189 5)) ∧ w'.cell? (ad193.add ((rd t189 5)).toNat) = some (.int .u32 (rd x7_1 (rd t189 5)))) (ds := []) #[false, false, false, false, false, false, false, false, false, false, false, false, false, false] (by kernel_rfl) rfl rfl ⟨hx202_0, hx203_0, hx204_0, hx205_0⟩ (fun hHeld => ?_); refine with_tabW bourneref03_compress.tab19 bourneref03_compress.bits19 (fun HT_ HW_ => ?_)
       generalize w97.drew = w98 at HO_7 HO_9 HO191 HB hx202_0 hx203_0 hx204_0 hx205_0 hHeld ⊢
       refine pure_ (i := 0) (N := some 101) (v := ?_) (a' := ?_) #[true, false, false, false, false, false, false, false, false, false, false, false, false, false] rfl rfl (any_of HT_.out (by kernel_rfl)) (fun _ _ _ h => h) (Or.inl ⟨by rfl, ?_⟩) ?_ ?_
       rotate_left
       ·intro w'
        go_simp
        with_reducible rfl
       rotate_left
       ·simp only [Act.put, List.setIfInBounds_toArray, List.set_cons_zero, List.set_cons_succ, i64_w, i32_w]
        rfl
       refine pure_ (i := 1) (N := some 102) (v := ?_) (a' := ?_) #[true, true, false, false, false, false, false, false, false, false, false, false, false, false] rfl rfl (any_of HT_.out (by kernel_rfl)) (fun _ _ _ h => h) (Or.inl ⟨by rfl, ?_⟩) ?_ ?_
       rotate_left
       ·intro w'
        go_simp
        with_reducible rfl
       rotate_left
       ·simp only [Act.put, List.setIfInBounds_toArray, List.set_cons_zero, List.set_cons_succ, i64_w, i32_w]
        rfl
       refine pure_ (i := 2) (N := some 103) (v := ?_) (a' := ?_) #[true, true, true, false, false, false, false, false, false, false, false, false, false, false] rfl rfl (any_of HT_.out (by kernel_rfl)) (fun _ _ _ h => h) (Or.inl ⟨by rfl, ?_⟩) ?_ ?_
       rotate_left
       ·intro w'
        go_simp
        with_reducible rfl
       rotate_left
       ·simp only [Act.put, List.setIfInBounds_toArray, List.set_cons_zero, List.set_cons_succ, i64_w, i32_w]
        rfl
       refine pure_ (i := 3) (N := some 104) (v := ?_) (a' := ?_) #[true, true, true, true, false, false, false, false, false, false, false, false, false, false] rfl rfl (any_of HT_.out (by kernel_rfl)) (fun _ _ _ h => h) (Or.inl ⟨by rfl, ?_⟩) ?_ ?_
       rotate_left
       ·intro w'
        go_simp
        with_reducible rfl
       rotate_left
       ·simp only [Act.put, List.setIfInBounds_toArray, List.set_cons_zero, List.set_cons_succ, i64_w, i32_w]
        rfl
       refine pure_ (i := 7) (N := some 108) (v := ?_) (a' := ?_) #[true, true, true, true, false, false, false, true, false, false, false, false, false, false] rfl rfl (any_of HT_.out (by kernel_rfl)) (fun _ _ _ h => h) (Or.inl ⟨by rfl, ?_⟩) ?_ ?_
       rotate_left
       ·intro w'
        go_simp
        with_reducible rfl
       rotate_left
       ·simp only [Act.put, List.setIfInBounds_toArray, List.set_cons_zero, List.set_cons_succ, i64_w, i32_w]
        rfl
       refine pure_ (i := 8) (N := some 109) (v := ?_) (a' := ?_) #[true, true, true, true, false, false, false, true, true, false, false, false, false, false] rfl rfl (any_of HT_.out (by kernel_rfl)) (fun _ _ _ h => h) (Or.inl ⟨by rfl, ?_⟩) ?_ ?_
       rotate_left
       ·intro w'
        go_simp
        with_reducible rfl
       rotate_left
       ·simp only [Act.put, List.setIfInBounds_toArray, List.set_cons_zero, List.set_cons_succ, i64_w, i32_w]
        rfl
       refine pure_ (i := 9) (N := some 110) (v := ?_) (a' := ?_) #[true, true, true, true, false, false, false, true, true, true, false, false, false, false] rfl rfl (any_of HT_.out (by kernel_rfl)) (fun _ _ _ h => h) (Or.inl ⟨by rfl, ?_⟩) ?_ ?_
       rotate_left
       ·intro w'
        go_simp
        with_reducible rfl
       rotate_left
       ·simp only [Act.put, List.setIfInBounds_toArray, List.set_cons_zero, List.set_cons_succ, i64_w, i32_w]
        rfl
       refine take_ (i := 4) (N := some 105) (v := ?_) (a' := ?_) #[true, true, true, true, true, false, false, true, true, true, false, false, false, false] rfl rfl (take_ofW HT_.out HW_.out (by kernel_rfl)) (fun _ _ _ h => h) (Or.inl ⟨by rfl, ?_⟩) hHeld ?_ ?_
       rotate_left
       ·rintro w' ⟨s0, s1, s2, s3⟩
        go_simp
        with_reducible rfl
       rotate_left
       ·simp only [Act.put, List.setIfInBounds_toArray, List.set_cons_zero, List.set_cons_succ, i64_w, i32_w]
        rfl
       refine pure_ (i := 5) (N := some 106) (v := ?_) (a' := ?_) #[true, true, true, true, true, true, false, true, true, true, false, false, false, false] rfl rfl (any_of HT_.out (by kernel_rfl)) (fun _ _ _ h => h) (Or.inl ⟨by rfl, ?_⟩) ?_ ?_
       rotate_left
       ·intro w'
        go_simp
        with_reducible rfl
       rotate_left
       ·simp only [Act.put, List.setIfInBounds_toArray, List.set_cons_zero, List.set_cons_succ, i64_w, i32_w]
        rfl
       refine take_ (i := 6) (N := some 107) (v := ?_) (a' := ?_) #[true, true, true, true, true, true, true, true, true, true, false, false, false, false] rfl rfl (take_ofW HT_.out HW_.out (by kernel_rfl)) (fun _ _ _ h => h) (Or.inl ⟨by rfl, ?_⟩) hHeld ?_ ?_
       rotate_left
       ·rintro w' ⟨s0, s1, s2, s3⟩
        go_simp
        with_reducible rfl
       rotate_left
       ·simp only [Act.put, List.setIfInBounds_toArray, List.set_cons_zero, List.set_cons_succ, i64_w, i32_w]
        rfl
       refine take_ (i := 10) (N := some 111) (v := ?_) (a' := ?_) #[true, true, true, true, true, true, true, true, true, true, true, false, false, false] rfl rfl (take_ofW HT_.out HW_.out (by kernel_rfl)) (fun _ _ _ h => h) (Or.inl ⟨by rfl, ?_⟩) hHeld ?_ ?_
       rotate_left
       ·rintro w' ⟨s0, s1, s2, s3⟩
        go_simp
        with_reducible rfl
       rotate_left
       ·simp only [Act.put, List.setIfInBounds_toArray, List.set_cons_zero, List.set_cons_succ, i64_w, i32_w]
        rfl
       refine pure_ (i := 11) (N := some 112) (v := ?_) (a' := ?_) #[true, true, true, true, true, true, true, true, true, true, true, true, false, false] rfl rfl (any_of HT_.out (by kernel_rfl)) (fun _ _ _ h => h) (Or.inl ⟨by rfl, ?_⟩) ?_ ?_
       rotate_left
       ·intro w'
        go_simp
        with_reducible rfl
       rotate_left
       ·simp only [Act.put, List.setIfInBounds_toArray, List.set_cons_zero, List.set_cons_succ, i64_w, i32_w]
        rfl
       refine take_ (i := 12) (N := some 113) (v := ?_) (a' := ?_) #[true, true, true, true, true, true, true, true, true, true, true, true, true, false] rfl rfl (take_ofW HT_.out HW_.out (by kernel_rfl)) (fun _ _ _ h => h) (Or.inl ⟨by rfl, ?_⟩) hHeld ?_ ?_
       rotate_left
       ·rintro w' ⟨s0, s1, s2, s3⟩
        go_simp
        with_reducible rfl
       rotate_left
       ·simp only [Act.put, List.setIfInBounds_toArray, List.set_cons_zero, List.set_cons_succ, i64_w, i32_w]
        rfl
       refine one_ (i := 13) (N := some 114) #[true, true, true, true, true, true, true, true, true, true, true, true, true, true] rfl rfl (one_of HT_.out (by kernel_rfl)) (by decide) (fun K hK => ?_)
       refine goes_ Tryd.func130 (by kernel_rfl) rfl #[.slice (some ⟨go13, 0, none⟩) x9_3.length co23, .int .i64 2, .int .i64 6, .int .i64 10, .int .i64 14, .int .u32 (rd x7_1 (rd t189 4)), .int .u32 (rd x7_1 (rd t189 5))] (by rfl) rfl rfl (by (try simp only [List.map_toArray, List.map_cons, List.map_nil]); first | done | rfl | (simp only [List.length_drop, List.length_take]; rfl)) ?_
       with_reducible refine (bourneref03_g.calls (fun k_ => some k_ = (.slice (some ⟨go13, 0, none⟩) x9_3.length co23 : Value).ownBlock) (.slice (some ⟨go13, 0, none⟩) x9_3.length co23) t201 2 6 10 14 (rd x7_1 (rd t189 4)) (rd x7_1 (rd t189 5)) t206 w _ ?side1 ?side2 A55.out).mono ?_
       (case side1 => repeat (first | (with_reducible first | exact HB.out | apply below_alloc | apply pw_below_drewN | apply below_drew1) | exact HB.out))
       (case side2 => exact Kd.R_tight rfl HO_9.out)
       rintro e w99 ⟨rfl, hy0, hb, hkp⟩
       have HS0_ := cell_kept (hHeld.1) hkp (by first | (rw [add_block]; exact (fun hs_ => ((((Kd.R_apart' HO191.out (Kd.R_typed HO_9.out) (by decide))).1 _ rfl).2) hs_)) | (show ¬ _; simp only [add_block]; exact (fun hs_ => ((((Kd.R_apart' HO191.out (Kd.R_typed HO_9.out) (by decide))).1 _ rfl).2) hs_)) | exact (fun hs_ => ((((Kd.R_apart' HO191.out (Kd.R_typed HO_9.out) (by decide))).1 _ rfl).2) hs_))
       have HS1_ := cell_kept (hHeld.2.1) hkp (by first | (rw [add_block]; exact (fun hs_ => (((HO_7.out).1 _ rfl)) hs_)) | (show ¬ _; simp only [add_block]; exact (fun hs_ => (((HO_7.out).1 _ rfl)) hs_)) | exact (fun hs_ => (((HO_7.out).1 _ rfl)) hs_))
       have HS2_ := cell_kept (hHeld.2.2.1) hkp (by first | (rw [add_block]; exact (fun hs_ => ((((Kd.R_apart' HO191.out (Kd.R_typed HO_9.out) (by decide))).1 _ rfl).2) hs_)) | (show ¬ _; simp only [add_block]; exact (fun hs_ => ((((Kd.R_apart' HO191.out (Kd.R_typed HO_9.out) (by decide))).1 _ rfl).2) hs_)) | exact (fun hs_ => ((((Kd.R_apart' HO191.out (Kd.R_typed HO_9.out) (by decide))).1 _ rfl).2) hs_))
       have HS3_ := cell_kept (hHeld.2.2.2) hkp (by first | (rw [add_block]; exact (fun hs_ => (((HO_7.out).1 _ rfl)) hs_)) | (show ¬ _; simp only [add_block]; exact (fun hs_ => (((HO_7.out).1 _ rfl)) hs_)) | exact (fun hs_ => (((HO_7.out).1 _ rfl)) hs_))
       refine ⟨_, rfl, ?_⟩
       have n0_ := Aside0.mk (Kd.R_mono (ok' := fun k_ => some k_ ≠ (.slice (some ⟨go13, 0, none⟩) x9_3.length co23 : Value).ownBlock) (Kd.R_keptB (HO_7.out) hkp (fun k_ hk_ hs_ => (hk_) hs_)) (fun k_ hk_ => hk_.1))
       have n1_ := Aside0.mk (Kd.R_reok rfl hy0 (fun k_ e_ => HO_9.out.1 k_ e_))
       have n2_ := Aside0.mk (Kd.R_mono (ok' := fun k_ => True) (Kd.R_keptB ((Kd.R_apart' HO191.out (Kd.R_typed HO_9.out) (by decide))) hkp (fun k_ hk_ hs_ => (hk_.2) hs_)) (fun k_ hk_ => trivial))
       have n3_ := Aside0.mk (hb)
       clear HO_7
       clear HO_9
       clear HO191
       clear HB
       have HO_7 := n0_
       have HO_9 := n1_
       have HO191 := n2_
       have HB := n3_
       clear n0_ n1_ n2_ n3_
       (try clear hb)
       (try clear hkp)
       (try clear hy0)
       refine hK.out _ _ ⟨HS0_, HS1_, HS2_, HS3_⟩ (fun hHeld => ?_)
       clear hK K
       refine norm_ (a' := ?_) ?_ ?_
       rotate_left
       ·show Act.put _ (some 114) _ = _
        simp only [Act.put, List.setIfInBounds_toArray, List.set_cons_zero, List.set_cons_succ, i64_w, i32_w]
        rfl
       refine done_ (done_of HT_.out (by kernel_rfl)) ?_
       try go_wp2
       have n0_ := Aside0.mk (Kd.R_drew HO_7.out)
       have n1_ := Aside0.mk (Kd.R_drew HO_9.out)
       have n2_ := Aside0.mk (Kd.R_drew HO191.out)
       have n3_ := Aside0.mk (below_drew1 HB.out)
       clear HO_7
       clear HO_9
       clear HO191
       clear HB
       have HO_7 := n0_
       have HO_9 := n1_
       have HO191 := n2_
       have HB := n3_
       clear n0_ n1_ n2_ n3_
       have p207 : 0 ≤ (6 : Int) := (by omega)
       have q207 : 6 < (t189.length : Int) := of_decide_eq_true (by first | (with_reducible assumption) | assumption)
       obtain ⟨ad207, e207, hx207_0⟩ := Kd.at_int (Kd.R_reads' HO191.out).2.2 6 p207 q207
       obtain rfl : ad192 = ad207 := (by injection e207)
       (try simp only [show (6 : Int).toNat = 6 from rfl, Nat.reduceMul, Nat.reduceEqDiff, Go.Addr.add, ↓reduceIte] at hx207_0)
       have qi207 : (6 < t189.length) = True := eq_true (by omega)
       (try rw [show ((6 : Int)).toNat = 6 from rfl] at hx207_0)
       replace p207 := eq_true p207
       replace q207 := eq_true q207
       have p208 : 0 ≤ ((rd t189 6) : Int) := of_decide_eq_true (by first | (with_reducible assumption) | assumption)
       have q208 : (rd t189 6) < (x7_1.length : Int) := of_decide_eq_true (by first | (with_reducible assumption) | assumption)
       obtain ⟨ad208, e208, hx208_0⟩ := Kd.at_int (Kd.R_reads' HO_7.out).2.2 (rd t189 6) p208 q208
       obtain rfl : ad193 = ad208 := (by injection e208)
       replace p208 := eq_true p208
       replace q208 := eq_true q208
       have p209 : 0 ≤ (7 : Int) := (by omega)
       have q209 : 7 < (t189.length : Int) := of_decide_eq_true (by first | (with_reducible assumption) | assumption)
       obtain ⟨ad209, e209, hx209_0⟩ := Kd.at_int (Kd.R_reads' HO191.out).2.2 7 p209 q209
       obtain rfl : ad192 = ad209 := (by injection e209)
       (try simp only [show (7 : Int).toNat = 7 from rfl, Nat.reduceMul, Nat.reduceEqDiff, Go.Addr.add, ↓reduceIte] at hx209_0)
       have qi209 : (7 < t189.length) = True := eq_true (by omega)
       (try rw [show ((7 : Int)).toNat = 7 from rfl] at hx209_0)
       replace p209 := eq_true p209
       replace q209 := eq_true q209
       have p210 : 0 ≤ ((rd t189 7) : Int) := of_decide_eq_true (by first | (with_reducible assumption) | assumption)
       have q210 : (rd t189 7) < (x7_1.length : Int) := of_decide_eq_true (by first | (with_reducible assumption) | assumption)
       obtain ⟨ad210, e210, hx210_0⟩ := Kd.at_int (Kd.R_reads' HO_7.out).2.2 (rd t189 7) p210 q210
       obtain rfl : ad193 = ad210 := (by injection e210)
       replace p210 := eq_true p210
       replace q210 := eq_true q210
       refine start_ (n := 14) (S := fun w' => w'.cell? ⟨ad192.block, ad192.off + 6, none⟩ = some (.int .i64 (rd t189 6)) ∧ w'.cell? (ad193.add ((rd t189 6)).toNat) = some (.int .u32 (rd x7_1 (rd t189 6))) ∧ w'.cell? ⟨ad192.block, ad192.off + 7, none⟩ = some (.int .i64 (rd t189 7)) ∧ w'.cell? (ad193.add ((rd t189 7)).toNat) = some (.int .u32 (rd x7_1 (rd t189 7)))) (ds := []) #[false, false, false, false, false, false, false, false, false, false, false, false, false, false] (by kernel_rfl) rfl rfl ⟨hx207_0, hx208_0, hx209_0, hx210_0⟩ (fun hHeld => ?_); refine with_tabW bourneref03_compress.tab20 bourneref03_compress.bits20 (fun HT_ HW_ => ?_)
       generalize w99.drew = w100 at HO_7 HO_9 HO191 HB hx207_0 hx208_0 hx209_0 hx210_0 hHeld ⊢
       refine pure_ (i := 0) (N := some 115) (v := ?_) (a' := ?_) #[true, false, false, false, false, false, false, false, false, false, false, false, false, false] rfl rfl (any_of HT_.out (by kernel_rfl)) (fun _ _ _ h => h) (Or.inl ⟨by rfl, ?_⟩) ?_ ?_
       rotate_left
       ·intro w'
        go_simp
        with_reducible rfl
       rotate_left
       ·simp only [Act.put, List.setIfInBounds_toArray, List.set_cons_zero, List.set_cons_succ, i64_w, i32_w]
        rfl
       refine pure_ (i := 1) (N := some 116) (v := ?_) (a' := ?_) #[true, true, false, false, false, false, false, false, false, false, false, false, false, false] rfl rfl (any_of HT_.out (by kernel_rfl)) (fun _ _ _ h => h) (Or.inl ⟨by rfl, ?_⟩) ?_ ?_
       rotate_left
       ·intro w'
        go_simp
        with_reducible rfl
       rotate_left
       ·simp only [Act.put, List.setIfInBounds_toArray, List.set_cons_zero, List.set_cons_succ, i64_w, i32_w]
        rfl
       refine pure_ (i := 2) (N := some 117) (v := ?_) (a' := ?_) #[true, true, true, false, false, false, false, false, false, false, false, false, false, false] rfl rfl (any_of HT_.out (by kernel_rfl)) (fun _ _ _ h => h) (Or.inl ⟨by rfl, ?_⟩) ?_ ?_
       rotate_left
       ·intro w'
        go_simp
        with_reducible rfl
       rotate_left
       ·simp only [Act.put, List.setIfInBounds_toArray, List.set_cons_zero, List.set_cons_succ, i64_w, i32_w]
        rfl
       refine pure_ (i := 3) (N := some 118) (v := ?_) (a' := ?_) #[true, true, true, true, false, false, false, false, false, false, false, false, false, false] rfl rfl (any_of HT_.out (by kernel_rfl)) (fun _ _ _ h => h) (Or.inl ⟨by rfl, ?_⟩) ?_ ?_
       rotate_left
       ·intro w'
        go_simp
        with_reducible rfl
       rotate_left
       ·simp only [Act.put, List.setIfInBounds_toArray, List.set_cons_zero, List.set_cons_succ, i64_w, i32_w]
        rfl
       refine pure_ (i := 7) (N := some 122) (v := ?_) (a' := ?_) #[true, true, true, true, false, false, false, true, false, false, false, false, false, false] rfl rfl (any_of HT_.out (by kernel_rfl)) (fun _ _ _ h => h) (Or.inl ⟨by rfl, ?_⟩) ?_ ?_
       rotate_left
       ·intro w'
        go_simp
        with_reducible rfl
       rotate_left
       ·simp only [Act.put, List.setIfInBounds_toArray, List.set_cons_zero, List.set_cons_succ, i64_w, i32_w]
        rfl
       refine pure_ (i := 8) (N := some 123) (v := ?_) (a' := ?_) #[true, true, true, true, false, false, false, true, true, false, false, false, false, false] rfl rfl (any_of HT_.out (by kernel_rfl)) (fun _ _ _ h => h) (Or.inl ⟨by rfl, ?_⟩) ?_ ?_
       rotate_left
       ·intro w'
        go_simp
        with_reducible rfl
       rotate_left
       ·simp only [Act.put, List.setIfInBounds_toArray, List.set_cons_zero, List.set_cons_succ, i64_w, i32_w]
        rfl
       refine pure_ (i := 9) (N := some 124) (v := ?_) (a' := ?_) #[true, true, true, true, false, false, false, true, true, true, false, false, false, false] rfl rfl (any_of HT_.out (by kernel_rfl)) (fun _ _ _ h => h) (Or.inl ⟨by rfl, ?_⟩) ?_ ?_
       rotate_left
       ·intro w'
        go_simp
        with_reducible rfl
       rotate_left
       ·simp only [Act.put, List.setIfInBounds_toArray, List.set_cons_zero, List.set_cons_succ, i64_w, i32_w]
        rfl
       refine take_ (i := 4) (N := some 119) (v := ?_) (a' := ?_) #[true, true, true, true, true, false, false, true, true, true, false, false, false, false] rfl rfl (take_ofW HT_.out HW_.out (by kernel_rfl)) (fun _ _ _ h => h) (Or.inl ⟨by rfl, ?_⟩) hHeld ?_ ?_
       rotate_left
       ·rintro w' ⟨s0, s1, s2, s3⟩
        go_simp
        with_reducible rfl
       rotate_left
       ·simp only [Act.put, List.setIfInBounds_toArray, List.set_cons_zero, List.set_cons_succ, i64_w, i32_w]
        rfl
       refine pure_ (i := 5) (N := some 120) (v := ?_) (a' := ?_) #[true, true, true, true, true, true, false, true, true, true, false, false, false, false] rfl rfl (any_of HT_.out (by kernel_rfl)) (fun _ _ _ h => h) (Or.inl ⟨by rfl, ?_⟩) ?_ ?_
       rotate_left
       ·intro w'
        go_simp
        with_reducible rfl
       rotate_left
       ·simp only [Act.put, List.setIfInBounds_toArray, List.set_cons_zero, List.set_cons_succ, i64_w, i32_w]
        rfl
       refine take_ (i := 6) (N := some 121) (v := ?_) (a' := ?_) #[true, true, true, true, true, true, true, true, true, true, false, false, false, false] rfl rfl (take_ofW HT_.out HW_.out (by kernel_rfl)) (fun _ _ _ h => h) (Or.inl ⟨by rfl, ?_⟩) hHeld ?_ ?_
       rotate_left
       ·rintro w' ⟨s0, s1, s2, s3⟩
        go_simp
        with_reducible rfl
       rotate_left
       ·simp only [Act.put, List.setIfInBounds_toArray, List.set_cons_zero, List.set_cons_succ, i64_w, i32_w]
        rfl
       refine take_ (i := 10) (N := some 125) (v := ?_) (a' := ?_) #[true, true, true, true, true, true, true, true, true, true, true, false, false, false] rfl rfl (take_ofW HT_.out HW_.out (by kernel_rfl)) (fun _ _ _ h => h) (Or.inl ⟨by rfl, ?_⟩) hHeld ?_ ?_
       rotate_left
       ·rintro w' ⟨s0, s1, s2, s3⟩
        go_simp
        with_reducible rfl
       rotate_left
       ·simp only [Act.put, List.setIfInBounds_toArray, List.set_cons_zero, List.set_cons_succ, i64_w, i32_w]
        rfl
       refine pure_ (i := 11) (N := some 126) (v := ?_) (a' := ?_) #[true, true, true, true, true, true, true, true, true, true, true, true, false, false] rfl rfl (any_of HT_.out (by kernel_rfl)) (fun _ _ _ h => h) (Or.inl ⟨by rfl, ?_⟩) ?_ ?_
       rotate_left
       ·intro w'
        go_simp
        with_reducible rfl
       rotate_left
       ·simp only [Act.put, List.setIfInBounds_toArray, List.set_cons_zero, List.set_cons_succ, i64_w, i32_w]
        rfl
       refine take_ (i := 12) (N := some 127) (v := ?_) (a' := ?_) #[true, true, true, true, true, true, true, true, true, true, true, true, true, false] rfl rfl (take_ofW HT_.out HW_.out (by kernel_rfl)) (fun _ _ _ h => h) (Or.inl ⟨by rfl, ?_⟩) hHeld ?_ ?_
       rotate_left
       ·rintro w' ⟨s0, s1, s2, s3⟩
        go_simp
        with_reducible rfl
       rotate_left
       ·simp only [Act.put, List.setIfInBounds_toArray, List.set_cons_zero, List.set_cons_succ, i64_w, i32_w]
        rfl
       refine one_ (i := 13) (N := some 128) #[true, true, true, true, true, true, true, true, true, true, true, true, true, true] rfl rfl (one_of HT_.out (by kernel_rfl)) (by decide) (fun K hK => ?_)
       refine goes_ Tryd.func130 (by kernel_rfl) rfl #[.slice (some ⟨go13, 0, none⟩) x9_3.length co23, .int .i64 3, .int .i64 7, .int .i64 11, .int .i64 15, .int .u32 (rd x7_1 (rd t189 6)), .int .u32 (rd x7_1 (rd t189 7))] (by rfl) rfl rfl (by (try simp only [List.map_toArray, List.map_cons, List.map_nil]); first | done | rfl | (simp only [List.length_drop, List.length_take]; rfl)) ?_
       with_reducible refine (bourneref03_g.calls (fun k_ => some k_ = (.slice (some ⟨go13, 0, none⟩) x9_3.length co23 : Value).ownBlock) (.slice (some ⟨go13, 0, none⟩) x9_3.length co23) t206 3 7 11 15 (rd x7_1 (rd t189 6)) (rd x7_1 (rd t189 7)) t211 w _ ?side1 ?side2 A62.out).mono ?_
       (case side1 => repeat (first | (with_reducible first | exact HB.out | apply below_alloc | apply pw_below_drewN | apply below_drew1) | exact HB.out))
       (case side2 => exact Kd.R_tight rfl HO_9.out)
       rintro e w101 ⟨rfl, hy0, hb, hkp⟩
       have HS0_ := cell_kept (hHeld.1) hkp (by first | (rw [add_block]; exact (fun hs_ => ((((Kd.R_apart' HO191.out (Kd.R_typed HO_9.out) (by decide))).1 _ rfl).2) hs_)) | (show ¬ _; simp only [add_block]; exact (fun hs_ => ((((Kd.R_apart' HO191.out (Kd.R_typed HO_9.out) (by decide))).1 _ rfl).2) hs_)) | exact (fun hs_ => ((((Kd.R_apart' HO191.out (Kd.R_typed HO_9.out) (by decide))).1 _ rfl).2) hs_))
       have HS1_ := cell_kept (hHeld.2.1) hkp (by first | (rw [add_block]; exact (fun hs_ => (((HO_7.out).1 _ rfl)) hs_)) | (show ¬ _; simp only [add_block]; exact (fun hs_ => (((HO_7.out).1 _ rfl)) hs_)) | exact (fun hs_ => (((HO_7.out).1 _ rfl)) hs_))
       have HS2_ := cell_kept (hHeld.2.2.1) hkp (by first | (rw [add_block]; exact (fun hs_ => ((((Kd.R_apart' HO191.out (Kd.R_typed HO_9.out) (by decide))).1 _ rfl).2) hs_)) | (show ¬ _; simp only [add_block]; exact (fun hs_ => ((((Kd.R_apart' HO191.out (Kd.R_typed HO_9.out) (by decide))).1 _ rfl).2) hs_)) | exact (fun hs_ => ((((Kd.R_apart' HO191.out (Kd.R_typed HO_9.out) (by decide))).1 _ rfl).2) hs_))
       have HS3_ := cell_kept (hHeld.2.2.2) hkp (by first | (rw [add_block]; exact (fun hs_ => (((HO_7.out).1 _ rfl)) hs_)) | (show ¬ _; simp only [add_block]; exact (fun hs_ => (((HO_7.out).1 _ rfl)) hs_)) | exact (fun hs_ => (((HO_7.out).1 _ rfl)) hs_))
       refine ⟨_, rfl, ?_⟩
       have n0_ := Aside0.mk (Kd.R_mono (ok' := fun k_ => some k_ ≠ (.slice (some ⟨go13, 0, none⟩) x9_3.length co23 : Value).ownBlock) (Kd.R_keptB (HO_7.out) hkp (fun k_ hk_ hs_ => (hk_) hs_)) (fun k_ hk_ => hk_.1))
       have n1_ := Aside0.mk (Kd.R_reok rfl hy0 (fun k_ e_ => HO_9.out.1 k_ e_))
       have n2_ := Aside0.mk (Kd.R_mono (ok' := fun k_ => True) (Kd.R_keptB ((Kd.R_apart' HO191.out (Kd.R_typed HO_9.out) (by decide))) hkp (fun k_ hk_ hs_ => (hk_.2) hs_)) (fun k_ hk_ => trivial))
       have n3_ := Aside0.mk (hb)
       clear HO_7
       clear HO_9
       clear HO191
       clear HB
       have HO_7 := n0_
       have HO_9 := n1_
       have HO191 := n2_
       have HB := n3_
       clear n0_ n1_ n2_ n3_
       (try clear hb)
       (try clear hkp)
       (try clear hy0)
       refine hK.out _ _ ⟨HS0_, HS1_, HS2_, HS3_⟩ (fun hHeld => ?_)
       clear hK K
       refine norm_ (a' := ?_) ?_ ?_
       rotate_left
       ·show Act.put _ (some 128) _ = _
        simp only [Act.put, List.setIfInBounds_toArray, List.set_cons_zero, List.set_cons_succ, i64_w, i32_w]
        rfl
       refine done_ (done_of HT_.out (by kernel_rfl)) ?_
       try go_wp2
       have n0_ := Aside0.mk (Kd.R_drew HO_7.out)
       have n1_ := Aside0.mk (Kd.R_drew HO_9.out)
       have n2_ := Aside0.mk (Kd.R_drew HO191.out)
       have n3_ := Aside0.mk (below_drew1 HB.out)
       clear HO_7
       clear HO_9
       clear HO191
       clear HB
       have HO_7 := n0_
       have HO_9 := n1_
       have HO191 := n2_
       have HB := n3_
       clear n0_ n1_ n2_ n3_
       have p212 : 0 ≤ (8 : Int) := (by omega)
       have q212 : 8 < (t189.length : Int) := of_decide_eq_true (by first | (with_reducible assumption) | assumption)
       obtain ⟨ad212, e212, hx212_0⟩ := Kd.at_int (Kd.R_reads' HO191.out).2.2 8 p212 q212
       obtain rfl : ad192 = ad212 := (by injection e212)
       (try simp only [show (8 : Int).toNat = 8 from rfl, Nat.reduceMul, Nat.reduceEqDiff, Go.Addr.add, ↓reduceIte] at hx212_0)
       have qi212 : (8 < t189.length) = True := eq_true (by omega)
       (try rw [show ((8 : Int)).toNat = 8 from rfl] at hx212_0)
       replace p212 := eq_true p212
       replace q212 := eq_true q212
       have p213 : 0 ≤ ((rd t189 8) : Int) := of_decide_eq_true (by first | (with_reducible assumption) | assumption)
       have q213 : (rd t189 8) < (x7_1.length : Int) := of_decide_eq_true (by first | (with_reducible assumption) | assumption)
       obtain ⟨ad213, e213, hx213_0⟩ := Kd.at_int (Kd.R_reads' HO_7.out).2.2 (rd t189 8) p213 q213
       obtain rfl : ad193 = ad213 := (by injection e213)
       replace p213 := eq_true p213
       replace q213 := eq_true q213
       have p214 : 0 ≤ (9 : Int) := (by omega)
       have q214 : 9 < (t189.length : Int) := of_decide_eq_true (by first | (with_reducible assumption) | assumption)
       obtain ⟨ad214, e214, hx214_0⟩ := Kd.at_int (Kd.R_reads' HO191.out).2.2 9 p214 q214
       obtain rfl : ad192 = ad214 := (by injection e214)
       (try simp only [show (9 : Int).toNat = 9 from rfl, Nat.reduceMul, Nat.reduceEqDiff, Go.Addr.add, ↓reduceIte] at hx214_0)
       have qi214 : (9 < t189.length) = True := eq_true (by omega)
       (try rw [show ((9 : Int)).toNat = 9 from rfl] at hx214_0)
       replace p214 := eq_true p214
       replace q214 := eq_true q214
       have p215 : 0 ≤ ((rd t189 9) : Int) := of_decide_eq_true (by first | (with_reducible assumption) | assumption)
       have q215 : (rd t189 9) < (x7_1.length : Int) := of_decide_eq_true (by first | (with_reducible assumption) | assumption)
       obtain ⟨ad215, e215, hx215_0⟩ := Kd.at_int (Kd.R_reads' HO_7.out).2.2 (rd t189 9) p215 q215
       obtain rfl : ad193 = ad215 := (by injection e215)
       replace p215 := eq_true p215
       replace q215 := eq_true q215
       refine start_ (n := 14) (S := fun w' => w'.cell? ⟨ad192.block, ad192.off + 8, none⟩ = some (.int .i64 (rd t189 8)) ∧ w'.cell? (ad193.add ((rd t189 8)).toNat) = some (.int .u32 (rd x7_1 (rd t189 8))) ∧ w'.cell? ⟨ad192.block, ad192.off + 9, none⟩ = some (.int .i64 (rd t189 9)) ∧ w'.cell? (ad193.add ((rd t189 9)).toNat) = some (.int .u32 (rd x7_1 (rd t189 9)))) (ds := []) #[false, false, false, false, false, false, false, false, false, false, false, false, false, false] (by kernel_rfl) rfl rfl ⟨hx212_0, hx213_0, hx214_0, hx215_0⟩ (fun hHeld => ?_); refine with_tabW bourneref03_compress.tab21 bourneref03_compress.bits21 (fun HT_ HW_ => ?_)
       generalize w101.drew = w102 at HO_7 HO_9 HO191 HB hx212_0 hx213_0 hx214_0 hx215_0 hHeld ⊢
       refine pure_ (i := 0) (N := some 129) (v := ?_) (a' := ?_) #[true, false, false, false, false, false, false, false, false, false, false, false, false, false] rfl rfl (any_of HT_.out (by kernel_rfl)) (fun _ _ _ h => h) (Or.inl ⟨by rfl, ?_⟩) ?_ ?_
       rotate_left
       ·intro w'
        go_simp
        with_reducible rfl
       rotate_left
       ·simp only [Act.put, List.setIfInBounds_toArray, List.set_cons_zero, List.set_cons_succ, i64_w, i32_w]
        rfl
       refine pure_ (i := 1) (N := some 130) (v := ?_) (a' := ?_) #[true, true, false, false, false, false, false, false, false, false, false, false, false, false] rfl rfl (any_of HT_.out (by kernel_rfl)) (fun _ _ _ h => h) (Or.inl ⟨by rfl, ?_⟩) ?_ ?_
       rotate_left
       ·intro w'
        go_simp
        with_reducible rfl
       rotate_left
       ·simp only [Act.put, List.setIfInBounds_toArray, List.set_cons_zero, List.set_cons_succ, i64_w, i32_w]
        rfl
       refine pure_ (i := 2) (N := some 131) (v := ?_) (a' := ?_) #[true, true, true, false, false, false, false, false, false, false, false, false, false, false] rfl rfl (any_of HT_.out (by kernel_rfl)) (fun _ _ _ h => h) (Or.inl ⟨by rfl, ?_⟩) ?_ ?_
       rotate_left
       ·intro w'
        go_simp
        with_reducible rfl
       rotate_left
       ·simp only [Act.put, List.setIfInBounds_toArray, List.set_cons_zero, List.set_cons_succ, i64_w, i32_w]
        rfl
       refine pure_ (i := 3) (N := some 132) (v := ?_) (a' := ?_) #[true, true, true, true, false, false, false, false, false, false, false, false, false, false] rfl rfl (any_of HT_.out (by kernel_rfl)) (fun _ _ _ h => h) (Or.inl ⟨by rfl, ?_⟩) ?_ ?_
       rotate_left
       ·intro w'
        go_simp
        with_reducible rfl
       rotate_left
       ·simp only [Act.put, List.setIfInBounds_toArray, List.set_cons_zero, List.set_cons_succ, i64_w, i32_w]
        rfl
       refine pure_ (i := 7) (N := some 136) (v := ?_) (a' := ?_) #[true, true, true, true, false, false, false, true, false, false, false, false, false, false] rfl rfl (any_of HT_.out (by kernel_rfl)) (fun _ _ _ h => h) (Or.inl ⟨by rfl, ?_⟩) ?_ ?_
       rotate_left
       ·intro w'
        go_simp
        with_reducible rfl
       rotate_left
       ·simp only [Act.put, List.setIfInBounds_toArray, List.set_cons_zero, List.set_cons_succ, i64_w, i32_w]
        rfl
       refine pure_ (i := 8) (N := some 137) (v := ?_) (a' := ?_) #[true, true, true, true, false, false, false, true, true, false, false, false, false, false] rfl rfl (any_of HT_.out (by kernel_rfl)) (fun _ _ _ h => h) (Or.inl ⟨by rfl, ?_⟩) ?_ ?_
       rotate_left
       ·intro w'
        go_simp
        with_reducible rfl
       rotate_left
       ·simp only [Act.put, List.setIfInBounds_toArray, List.set_cons_zero, List.set_cons_succ, i64_w, i32_w]
        rfl
       refine pure_ (i := 9) (N := some 138) (v := ?_) (a' := ?_) #[true, true, true, true, false, false, false, true, true, true, false, false, false, false] rfl rfl (any_of HT_.out (by kernel_rfl)) (fun _ _ _ h => h) (Or.inl ⟨by rfl, ?_⟩) ?_ ?_
       rotate_left
       ·intro w'
        go_simp
        with_reducible rfl
       rotate_left
       ·simp only [Act.put, List.setIfInBounds_toArray, List.set_cons_zero, List.set_cons_succ, i64_w, i32_w]
        rfl
       refine take_ (i := 4) (N := some 133) (v := ?_) (a' := ?_) #[true, true, true, true, true, false, false, true, true, true, false, false, false, false] rfl rfl (take_ofW HT_.out HW_.out (by kernel_rfl)) (fun _ _ _ h => h) (Or.inl ⟨by rfl, ?_⟩) hHeld ?_ ?_
       rotate_left
       ·rintro w' ⟨s0, s1, s2, s3⟩
        go_simp
        with_reducible rfl
       rotate_left
       ·simp only [Act.put, List.setIfInBounds_toArray, List.set_cons_zero, List.set_cons_succ, i64_w, i32_w]
        rfl
       refine pure_ (i := 5) (N := some 134) (v := ?_) (a' := ?_) #[true, true, true, true, true, true, false, true, true, true, false, false, false, false] rfl rfl (any_of HT_.out (by kernel_rfl)) (fun _ _ _ h => h) (Or.inl ⟨by rfl, ?_⟩) ?_ ?_
       rotate_left
       ·intro w'
        go_simp
        with_reducible rfl
       rotate_left
       ·simp only [Act.put, List.setIfInBounds_toArray, List.set_cons_zero, List.set_cons_succ, i64_w, i32_w]
        rfl
       refine take_ (i := 6) (N := some 135) (v := ?_) (a' := ?_) #[true, true, true, true, true, true, true, true, true, true, false, false, false, false] rfl rfl (take_ofW HT_.out HW_.out (by kernel_rfl)) (fun _ _ _ h => h) (Or.inl ⟨by rfl, ?_⟩) hHeld ?_ ?_
       rotate_left
       ·rintro w' ⟨s0, s1, s2, s3⟩
        go_simp
        with_reducible rfl
       rotate_left
       ·simp only [Act.put, List.setIfInBounds_toArray, List.set_cons_zero, List.set_cons_succ, i64_w, i32_w]
        rfl
       refine take_ (i := 10) (N := some 139) (v := ?_) (a' := ?_) #[true, true, true, true, true, true, true, true, true, true, true, false, false, false] rfl rfl (take_ofW HT_.out HW_.out (by kernel_rfl)) (fun _ _ _ h => h) (Or.inl ⟨by rfl, ?_⟩) hHeld ?_ ?_
       rotate_left
       ·rintro w' ⟨s0, s1, s2, s3⟩
        go_simp
        with_reducible rfl
       rotate_left
       ·simp only [Act.put, List.setIfInBounds_toArray, List.set_cons_zero, List.set_cons_succ, i64_w, i32_w]
        rfl
       refine pure_ (i := 11) (N := some 140) (v := ?_) (a' := ?_) #[true, true, true, true, true, true, true, true, true, true, true, true, false, false] rfl rfl (any_of HT_.out (by kernel_rfl)) (fun _ _ _ h => h) (Or.inl ⟨by rfl, ?_⟩) ?_ ?_
       rotate_left
       ·intro w'
        go_simp
        with_reducible rfl
       rotate_left
       ·simp only [Act.put, List.setIfInBounds_toArray, List.set_cons_zero, List.set_cons_succ, i64_w, i32_w]
        rfl
       refine take_ (i := 12) (N := some 141) (v := ?_) (a' := ?_) #[true, true, true, true, true, true, true, true, true, true, true, true, true, false] rfl rfl (take_ofW HT_.out HW_.out (by kernel_rfl)) (fun _ _ _ h => h) (Or.inl ⟨by rfl, ?_⟩) hHeld ?_ ?_
       rotate_left
       ·rintro w' ⟨s0, s1, s2, s3⟩
        go_simp
        with_reducible rfl
       rotate_left
       ·simp only [Act.put, List.setIfInBounds_toArray, List.set_cons_zero, List.set_cons_succ, i64_w, i32_w]
        rfl
       refine one_ (i := 13) (N := some 142) #[true, true, true, true, true, true, true, true, true, true, true, true, true, true] rfl rfl (one_of HT_.out (by kernel_rfl)) (by decide) (fun K hK => ?_)
       refine goes_ Tryd.func130 (by kernel_rfl) rfl #[.slice (some ⟨go13, 0, none⟩) x9_3.length co23, .int .i64 0, .int .i64 5, .int .i64 10, .int .i64 15, .int .u32 (rd x7_1 (rd t189 8)), .int .u32 (rd x7_1 (rd t189 9))] (by rfl) rfl rfl (by (try simp only [List.map_toArray, List.map_cons, List.map_nil]); first | done | rfl | (simp only [List.length_drop, List.length_take]; rfl)) ?_
       with_reducible refine (bourneref03_g.calls (fun k_ => some k_ = (.slice (some ⟨go13, 0, none⟩) x9_3.length co23 : Value).ownBlock) (.slice (some ⟨go13, 0, none⟩) x9_3.length co23) t211 0 5 10 15 (rd x7_1 (rd t189 8)) (rd x7_1 (rd t189 9)) t216 w _ ?side1 ?side2 A69.out).mono ?_
       (case side1 => repeat (first | (with_reducible first | exact HB.out | apply below_alloc | apply pw_below_drewN | apply below_drew1) | exact HB.out))
       (case side2 => exact Kd.R_tight rfl HO_9.out)
       rintro e w103 ⟨rfl, hy0, hb, hkp⟩
       have HS0_ := cell_kept (hHeld.1) hkp (by first | (rw [add_block]; exact (fun hs_ => ((((Kd.R_apart' HO191.out (Kd.R_typed HO_9.out) (by decide))).1 _ rfl).2) hs_)) | (show ¬ _; simp only [add_block]; exact (fun hs_ => ((((Kd.R_apart' HO191.out (Kd.R_typed HO_9.out) (by decide))).1 _ rfl).2) hs_)) | exact (fun hs_ => ((((Kd.R_apart' HO191.out (Kd.R_typed HO_9.out) (by decide))).1 _ rfl).2) hs_))
       have HS1_ := cell_kept (hHeld.2.1) hkp (by first | (rw [add_block]; exact (fun hs_ => (((HO_7.out).1 _ rfl)) hs_)) | (show ¬ _; simp only [add_block]; exact (fun hs_ => (((HO_7.out).1 _ rfl)) hs_)) | exact (fun hs_ => (((HO_7.out).1 _ rfl)) hs_))
       have HS2_ := cell_kept (hHeld.2.2.1) hkp (by first | (rw [add_block]; exact (fun hs_ => ((((Kd.R_apart' HO191.out (Kd.R_typed HO_9.out) (by decide))).1 _ rfl).2) hs_)) | (show ¬ _; simp only [add_block]; exact (fun hs_ => ((((Kd.R_apart' HO191.out (Kd.R_typed HO_9.out) (by decide))).1 _ rfl).2) hs_)) | exact (fun hs_ => ((((Kd.R_apart' HO191.out (Kd.R_typed HO_9.out) (by decide))).1 _ rfl).2) hs_))
       have HS3_ := cell_kept (hHeld.2.2.2) hkp (by first | (rw [add_block]; exact (fun hs_ => (((HO_7.out).1 _ rfl)) hs_)) | (show ¬ _; simp only [add_block]; exact (fun hs_ => (((HO_7.out).1 _ rfl)) hs_)) | exact (fun hs_ => (((HO_7.out).1 _ rfl)) hs_))
       refine ⟨_, rfl, ?_⟩
       have n0_ := Aside0.mk (Kd.R_mono (ok' := fun k_ => some k_ ≠ (.slice (some ⟨go13, 0, none⟩) x9_3.length co23 : Value).ownBlock) (Kd.R_keptB (HO_7.out) hkp (fun k_ hk_ hs_ => (hk_) hs_)) (fun k_ hk_ => hk_.1))
       have n1_ := Aside0.mk (Kd.R_reok rfl hy0 (fun k_ e_ => HO_9.out.1 k_ e_))
       have n2_ := Aside0.mk (Kd.R_mono (ok' := fun k_ => True) (Kd.R_keptB ((Kd.R_apart' HO191.out (Kd.R_typed HO_9.out) (by decide))) hkp (fun k_ hk_ hs_ => (hk_.2) hs_)) (fun k_ hk_ => trivial))
       have n3_ := Aside0.mk (hb)
       clear HO_7
       clear HO_9
       clear HO191
       clear HB
       have HO_7 := n0_
       have HO_9 := n1_
       have HO191 := n2_
       have HB := n3_
       clear n0_ n1_ n2_ n3_
       (try clear hb)
       (try clear hkp)
       (try clear hy0)
       refine hK.out _ _ ⟨HS0_, HS1_, HS2_, HS3_⟩ (fun hHeld => ?_)
       clear hK K
       refine norm_ (a' := ?_) ?_ ?_
       rotate_left
       ·show Act.put _ (some 142) _ = _
        simp only [Act.put, List.setIfInBounds_toArray, List.set_cons_zero, List.set_cons_succ, i64_w, i32_w]
        rfl
       refine done_ (done_of HT_.out (by kernel_rfl)) ?_
       try go_wp2
       have n0_ := Aside0.mk (Kd.R_drew HO_7.out)
       have n1_ := Aside0.mk (Kd.R_drew HO_9.out)
       have n2_ := Aside0.mk (Kd.R_drew HO191.out)
       have n3_ := Aside0.mk (below_drew1 HB.out)
       clear HO_7
       clear HO_9
       clear HO191
       clear HB
       have HO_7 := n0_
       have HO_9 := n1_
       have HO191 := n2_
       have HB := n3_
       clear n0_ n1_ n2_ n3_
       have p217 : 0 ≤ (10 : Int) := (by omega)
       have q217 : 10 < (t189.length : Int) := of_decide_eq_true (by first | (with_reducible assumption) | assumption)
       obtain ⟨ad217, e217, hx217_0⟩ := Kd.at_int (Kd.R_reads' HO191.out).2.2 10 p217 q217
       obtain rfl : ad192 = ad217 := (by injection e217)
       (try simp only [show (10 : Int).toNat = 10 from rfl, Nat.reduceMul, Nat.reduceEqDiff, Go.Addr.add, ↓reduceIte] at hx217_0)
       have qi217 : (10 < t189.length) = True := eq_true (by omega)
       (try rw [show ((10 : Int)).toNat = 10 from rfl] at hx217_0)
       replace p217 := eq_true p217
       replace q217 := eq_true q217
       have p218 : 0 ≤ ((rd t189 10) : Int) := of_decide_eq_true (by first | (with_reducible assumption) | assumption)
       have q218 : (rd t189 10) < (x7_1.length : Int) := of_decide_eq_true (by first | (with_reducible assumption) | assumption)
       obtain ⟨ad218, e218, hx218_0⟩ := Kd.at_int (Kd.R_reads' HO_7.out).2.2 (rd t189 10) p218 q218
       obtain rfl : ad193 = ad218 := (by injection e218)
       replace p218 := eq_true p218
       replace q218 := eq_true q218
       have p219 : 0 ≤ (11 : Int) := (by omega)
       have q219 : 11 < (t189.length : Int) := of_decide_eq_true (by first | (with_reducible assumption) | assumption)
       obtain ⟨ad219, e219, hx219_0⟩ := Kd.at_int (Kd.R_reads' HO191.out).2.2 11 p219 q219
       obtain rfl : ad192 = ad219 := (by injection e219)
       (try simp only [show (11 : Int).toNat = 11 from rfl, Nat.reduceMul, Nat.reduceEqDiff, Go.Addr.add, ↓reduceIte] at hx219_0)
       have qi219 : (11 < t189.length) = True := eq_true (by omega)
       (try rw [show ((11 : Int)).toNat = 11 from rfl] at hx219_0)
       replace p219 := eq_true p219
       replace q219 := eq_true q219
       have p220 : 0 ≤ ((rd t189 11) : Int) := of_decide_eq_true (by first | (with_reducible assumption) | assumption)
       have q220 : (rd t189 11) < (x7_1.length : Int) := of_decide_eq_true (by first | (with_reducible assumption) | assumption)
       obtain ⟨ad220, e220, hx220_0⟩ := Kd.at_int (Kd.R_reads' HO_7.out).2.2 (rd t189 11) p220 q220
       obtain rfl : ad193 = ad220 := (by injection e220)
       replace p220 := eq_true p220
       replace q220 := eq_true q220
       refine start_ (n := 14) (S := fun w' => w'.cell? ⟨ad192.block, ad192.off + 10, none⟩ = some (.int .i64 (rd t189 10)) ∧ w'.cell? (ad193.add ((rd t189 10)).toNat) = some (.int .u32 (rd x7_1 (rd t189 10))) ∧ w'.cell? ⟨ad192.block, ad192.off + 11, none⟩ = some (.int .i64 (rd t189 11)) ∧ w'.cell? (ad193.add ((rd t189 11)).toNat) = some (.int .u32 (rd x7_1 (rd t189 11)))) (ds := []) #[false, false, false, false, false, false, false, false, false, false, false, false, false, false] (by kernel_rfl) rfl rfl ⟨hx217_0, hx218_0, hx219_0, hx220_0⟩ (fun hHeld => ?_); refine with_tabW bourneref03_compress.tab22 bourneref03_compress.bits22 (fun HT_ HW_ => ?_)
       generalize w103.drew = w104 at HO_7 HO_9 HO191 HB hx217_0 hx218_0 hx219_0 hx220_0 hHeld ⊢
       refine pure_ (i := 0) (N := some 143) (v := ?_) (a' := ?_) #[true, false, false, false, false, false, false, false, false, false, false, false, false, false] rfl rfl (any_of HT_.out (by kernel_rfl)) (fun _ _ _ h => h) (Or.inl ⟨by rfl, ?_⟩) ?_ ?_
       rotate_left
       ·intro w'
        go_simp
        with_reducible rfl
       rotate_left
       ·simp only [Act.put, List.setIfInBounds_toArray, List.set_cons_zero, List.set_cons_succ, i64_w, i32_w]
        rfl
       refine pure_ (i := 1) (N := some 144) (v := ?_) (a' := ?_) #[true, true, false, false, false, false, false, false, false, false, false, false, false, false] rfl rfl (any_of HT_.out (by kernel_rfl)) (fun _ _ _ h => h) (Or.inl ⟨by rfl, ?_⟩) ?_ ?_
       rotate_left
       ·intro w'
        go_simp
        with_reducible rfl
       rotate_left
       ·simp only [Act.put, List.setIfInBounds_toArray, List.set_cons_zero, List.set_cons_succ, i64_w, i32_w]
        rfl
       refine pure_ (i := 2) (N := some 145) (v := ?_) (a' := ?_) #[true, true, true, false, false, false, false, false, false, false, false, false, false, false] rfl rfl (any_of HT_.out (by kernel_rfl)) (fun _ _ _ h => h) (Or.inl ⟨by rfl, ?_⟩) ?_ ?_
       rotate_left
       ·intro w'
        go_simp
        with_reducible rfl
       rotate_left
       ·simp only [Act.put, List.setIfInBounds_toArray, List.set_cons_zero, List.set_cons_succ, i64_w, i32_w]
        rfl
       refine pure_ (i := 3) (N := some 146) (v := ?_) (a' := ?_) #[true, true, true, true, false, false, false, false, false, false, false, false, false, false] rfl rfl (any_of HT_.out (by kernel_rfl)) (fun _ _ _ h => h) (Or.inl ⟨by rfl, ?_⟩) ?_ ?_
       rotate_left
       ·intro w'
        go_simp
        with_reducible rfl
       rotate_left
       ·simp only [Act.put, List.setIfInBounds_toArray, List.set_cons_zero, List.set_cons_succ, i64_w, i32_w]
        rfl
       refine pure_ (i := 7) (N := some 150) (v := ?_) (a' := ?_) #[true, true, true, true, false, false, false, true, false, false, false, false, false, false] rfl rfl (any_of HT_.out (by kernel_rfl)) (fun _ _ _ h => h) (Or.inl ⟨by rfl, ?_⟩) ?_ ?_
       rotate_left
       ·intro w'
        go_simp
        with_reducible rfl
       rotate_left
       ·simp only [Act.put, List.setIfInBounds_toArray, List.set_cons_zero, List.set_cons_succ, i64_w, i32_w]
        rfl
       refine pure_ (i := 8) (N := some 151) (v := ?_) (a' := ?_) #[true, true, true, true, false, false, false, true, true, false, false, false, false, false] rfl rfl (any_of HT_.out (by kernel_rfl)) (fun _ _ _ h => h) (Or.inl ⟨by rfl, ?_⟩) ?_ ?_
       rotate_left
       ·intro w'
        go_simp
        with_reducible rfl
       rotate_left
       ·simp only [Act.put, List.setIfInBounds_toArray, List.set_cons_zero, List.set_cons_succ, i64_w, i32_w]
        rfl
       refine pure_ (i := 9) (N := some 152) (v := ?_) (a' := ?_) #[true, true, true, true, false, false, false, true, true, true, false, false, false, false] rfl rfl (any_of HT_.out (by kernel_rfl)) (fun _ _ _ h => h) (Or.inl ⟨by rfl, ?_⟩) ?_ ?_
       rotate_left
       ·intro w'
        go_simp
        with_reducible rfl
       rotate_left
       ·simp only [Act.put, List.setIfInBounds_toArray, List.set_cons_zero, List.set_cons_succ, i64_w, i32_w]
        rfl
       refine take_ (i := 4) (N := some 147) (v := ?_) (a' := ?_) #[true, true, true, true, true, false, false, true, true, true, false, false, false, false] rfl rfl (take_ofW HT_.out HW_.out (by kernel_rfl)) (fun _ _ _ h => h) (Or.inl ⟨by rfl, ?_⟩) hHeld ?_ ?_
       rotate_left
       ·rintro w' ⟨s0, s1, s2, s3⟩
        go_simp
        with_reducible rfl
       rotate_left
       ·simp only [Act.put, List.setIfInBounds_toArray, List.set_cons_zero, List.set_cons_succ, i64_w, i32_w]
        rfl
       refine pure_ (i := 5) (N := some 148) (v := ?_) (a' := ?_) #[true, true, true, true, true, true, false, true, true, true, false, false, false, false] rfl rfl (any_of HT_.out (by kernel_rfl)) (fun _ _ _ h => h) (Or.inl ⟨by rfl, ?_⟩) ?_ ?_
       rotate_left
       ·intro w'
        go_simp
        with_reducible rfl
       rotate_left
       ·simp only [Act.put, List.setIfInBounds_toArray, List.set_cons_zero, List.set_cons_succ, i64_w, i32_w]
        rfl
       refine take_ (i := 6) (N := some 149) (v := ?_) (a' := ?_) #[true, true, true, true, true, true, true, true, true, true, false, false, false, false] rfl rfl (take_ofW HT_.out HW_.out (by kernel_rfl)) (fun _ _ _ h => h) (Or.inl ⟨by rfl, ?_⟩) hHeld ?_ ?_
       rotate_left
       ·rintro w' ⟨s0, s1, s2, s3⟩
        go_simp
        with_reducible rfl
       rotate_left
       ·simp only [Act.put, List.setIfInBounds_toArray, List.set_cons_zero, List.set_cons_succ, i64_w, i32_w]
        rfl
       refine take_ (i := 10) (N := some 153) (v := ?_) (a' := ?_) #[true, true, true, true, true, true, true, true, true, true, true, false, false, false] rfl rfl (take_ofW HT_.out HW_.out (by kernel_rfl)) (fun _ _ _ h => h) (Or.inl ⟨by rfl, ?_⟩) hHeld ?_ ?_
       rotate_left
       ·rintro w' ⟨s0, s1, s2, s3⟩
        go_simp
        with_reducible rfl
       rotate_left
       ·simp only [Act.put, List.setIfInBounds_toArray, List.set_cons_zero, List.set_cons_succ, i64_w, i32_w]
        rfl
       refine pure_ (i := 11) (N := some 154) (v := ?_) (a' := ?_) #[true, true, true, true, true, true, true, true, true, true, true, true, false, false] rfl rfl (any_of HT_.out (by kernel_rfl)) (fun _ _ _ h => h) (Or.inl ⟨by rfl, ?_⟩) ?_ ?_
       rotate_left
       ·intro w'
        go_simp
        with_reducible rfl
       rotate_left
       ·simp only [Act.put, List.setIfInBounds_toArray, List.set_cons_zero, List.set_cons_succ, i64_w, i32_w]
        rfl
       refine take_ (i := 12) (N := some 155) (v := ?_) (a' := ?_) #[true, true, true, true, true, true, true, true, true, true, true, true, true, false] rfl rfl (take_ofW HT_.out HW_.out (by kernel_rfl)) (fun _ _ _ h => h) (Or.inl ⟨by rfl, ?_⟩) hHeld ?_ ?_
       rotate_left
       ·rintro w' ⟨s0, s1, s2, s3⟩
        go_simp
        with_reducible rfl
       rotate_left
       ·simp only [Act.put, List.setIfInBounds_toArray, List.set_cons_zero, List.set_cons_succ, i64_w, i32_w]
        rfl
       refine one_ (i := 13) (N := some 156) #[true, true, true, true, true, true, true, true, true, true, true, true, true, true] rfl rfl (one_of HT_.out (by kernel_rfl)) (by decide) (fun K hK => ?_)
       refine goes_ Tryd.func130 (by kernel_rfl) rfl #[.slice (some ⟨go13, 0, none⟩) x9_3.length co23, .int .i64 1, .int .i64 6, .int .i64 11, .int .i64 12, .int .u32 (rd x7_1 (rd t189 10)), .int .u32 (rd x7_1 (rd t189 11))] (by rfl) rfl rfl (by (try simp only [List.map_toArray, List.map_cons, List.map_nil]); first | done | rfl | (simp only [List.length_drop, List.length_take]; rfl)) ?_
       with_reducible refine (bourneref03_g.calls (fun k_ => some k_ = (.slice (some ⟨go13, 0, none⟩) x9_3.length co23 : Value).ownBlock) (.slice (some ⟨go13, 0, none⟩) x9_3.length co23) t216 1 6 11 12 (rd x7_1 (rd t189 10)) (rd x7_1 (rd t189 11)) t221 w _ ?side1 ?side2 A76.out).mono ?_
       (case side1 => repeat (first | (with_reducible first | exact HB.out | apply below_alloc | apply pw_below_drewN | apply below_drew1) | exact HB.out))
       (case side2 => exact Kd.R_tight rfl HO_9.out)
       rintro e w105 ⟨rfl, hy0, hb, hkp⟩
       have HS0_ := cell_kept (hHeld.1) hkp (by first | (rw [add_block]; exact (fun hs_ => ((((Kd.R_apart' HO191.out (Kd.R_typed HO_9.out) (by decide))).1 _ rfl).2) hs_)) | (show ¬ _; simp only [add_block]; exact (fun hs_ => ((((Kd.R_apart' HO191.out (Kd.R_typed HO_9.out) (by decide))).1 _ rfl).2) hs_)) | exact (fun hs_ => ((((Kd.R_apart' HO191.out (Kd.R_typed HO_9.out) (by decide))).1 _ rfl).2) hs_))
       have HS1_ := cell_kept (hHeld.2.1) hkp (by first | (rw [add_block]; exact (fun hs_ => (((HO_7.out).1 _ rfl)) hs_)) | (show ¬ _; simp only [add_block]; exact (fun hs_ => (((HO_7.out).1 _ rfl)) hs_)) | exact (fun hs_ => (((HO_7.out).1 _ rfl)) hs_))
       have HS2_ := cell_kept (hHeld.2.2.1) hkp (by first | (rw [add_block]; exact (fun hs_ => ((((Kd.R_apart' HO191.out (Kd.R_typed HO_9.out) (by decide))).1 _ rfl).2) hs_)) | (show ¬ _; simp only [add_block]; exact (fun hs_ => ((((Kd.R_apart' HO191.out (Kd.R_typed HO_9.out) (by decide))).1 _ rfl).2) hs_)) | exact (fun hs_ => ((((Kd.R_apart' HO191.out (Kd.R_typed HO_9.out) (by decide))).1 _ rfl).2) hs_))
       have HS3_ := cell_kept (hHeld.2.2.2) hkp (by first | (rw [add_block]; exact (fun hs_ => (((HO_7.out).1 _ rfl)) hs_)) | (show ¬ _; simp only [add_block]; exact (fun hs_ => (((HO_7.out).1 _ rfl)) hs_)) | exact (fun hs_ => (((HO_7.out).1 _ rfl)) hs_))
       refine ⟨_, rfl, ?_⟩
       have n0_ := Aside0.mk (Kd.R_mono (ok' := fun k_ => some k_ ≠ (.slice (some ⟨go13, 0, none⟩) x9_3.length co23 : Value).ownBlock) (Kd.R_keptB (HO_7.out) hkp (fun k_ hk_ hs_ => (hk_) hs_)) (fun k_ hk_ => hk_.1))
       have n1_ := Aside0.mk (Kd.R_reok rfl hy0 (fun k_ e_ => HO_9.out.1 k_ e_))
       have n2_ := Aside0.mk (Kd.R_mono (ok' := fun k_ => True) (Kd.R_keptB ((Kd.R_apart' HO191.out (Kd.R_typed HO_9.out) (by decide))) hkp (fun k_ hk_ hs_ => (hk_.2) hs_)) (fun k_ hk_ => trivial))
       have n3_ := Aside0.mk (hb)
       clear HO_7
       clear HO_9
       clear HO191
       clear HB
       have HO_7 := n0_
       have HO_9 := n1_
       have HO191 := n2_
       have HB := n3_
       clear n0_ n1_ n2_ n3_
       (try clear hb)
       (try clear hkp)
       (try clear hy0)
       refine hK.out _ _ ⟨HS0_, HS1_, HS2_, HS3_⟩ (fun hHeld => ?_)
       clear hK K
       refine norm_ (a' := ?_) ?_ ?_
       rotate_left
       ·show Act.put _ (some 156) _ = _
        simp only [Act.put, List.setIfInBounds_toArray, List.set_cons_zero, List.set_cons_succ, i64_w, i32_w]
        rfl
       refine done_ (done_of HT_.out (by kernel_rfl)) ?_
       try go_wp2
       have n0_ := Aside0.mk (Kd.R_drew HO_7.out)
       have n1_ := Aside0.mk (Kd.R_drew HO_9.out)
       have n2_ := Aside0.mk (Kd.R_drew HO191.out)
       have n3_ := Aside0.mk (below_drew1 HB.out)
       clear HO_7
       clear HO_9
       clear HO191
       clear HB
       have HO_7 := n0_
       have HO_9 := n1_
       have HO191 := n2_
       have HB := n3_
       clear n0_ n1_ n2_ n3_
       have p222 : 0 ≤ (12 : Int) := (by omega)
       have q222 : 12 < (t189.length : Int) := of_decide_eq_true (by first | (with_reducible assumption) | assumption)
       obtain ⟨ad222, e222, hx222_0⟩ := Kd.at_int (Kd.R_reads' HO191.out).2.2 12 p222 q222
       obtain rfl : ad192 = ad222 := (by injection e222)
       (try simp only [show (12 : Int).toNat = 12 from rfl, Nat.reduceMul, Nat.reduceEqDiff, Go.Addr.add, ↓reduceIte] at hx222_0)
       have qi222 : (12 < t189.length) = True := eq_true (by omega)
       (try rw [show ((12 : Int)).toNat = 12 from rfl] at hx222_0)
       replace p222 := eq_true p222
       replace q222 := eq_true q222
       have p223 : 0 ≤ ((rd t189 12) : Int) := of_decide_eq_true (by first | (with_reducible assumption) | assumption)
       have q223 : (rd t189 12) < (x7_1.length : Int) := of_decide_eq_true (by first | (with_reducible assumption) | assumption)
       obtain ⟨ad223, e223, hx223_0⟩ := Kd.at_int (Kd.R_reads' HO_7.out).2.2 (rd t189 12) p223 q223
       obtain rfl : ad193 = ad223 := (by injection e223)
       replace p223 := eq_true p223
       replace q223 := eq_true q223
       have p224 : 0 ≤ (13 : Int) := (by omega)
       have q224 : 13 < (t189.length : Int) := of_decide_eq_true (by first | (with_reducible assumption) | assumption)
       obtain ⟨ad224, e224, hx224_0⟩ := Kd.at_int (Kd.R_reads' HO191.out).2.2 13 p224 q224
       obtain rfl : ad192 = ad224 := (by injection e224)
       (try simp only [show (13 : Int).toNat = 13 from rfl, Nat.reduceMul, Nat.reduceEqDiff, Go.Addr.add, ↓reduceIte] at hx224_0)
       have qi224 : (13 < t189.length) = True := eq_true (by omega)
       (try rw [show ((13 : Int)).toNat = 13 from rfl] at hx224_0)
       replace p224 := eq_true p224
       replace q224 := eq_true q224
       have p225 : 0 ≤ ((rd t189 13) : Int) := of_decide_eq_true (by first | (with_reducible assumption) | assumption)
       have q225 : (rd t189 13) < (x7_1.length : Int) := of_decide_eq_true (by first | (with_reducible assumption) | assumption)
       obtain ⟨ad225, e225, hx225_0⟩ := Kd.at_int (Kd.R_reads' HO_7.out).2.2 (rd t189 13) p225 q225
       obtain rfl : ad193 = ad225 := (by injection e225)
       replace p225 := eq_true p225
       replace q225 := eq_true q225
       refine start_ (n := 14) (S := fun w' => w'.cell? ⟨ad192.block, ad192.off + 12, none⟩ = some (.int .i64 (rd t189 12)) ∧ w'.cell? (ad193.add ((rd t189 12)).toNat) = some (.int .u32 (rd x7_1 (rd t189 12))) ∧ w'.cell? ⟨ad192.block, ad192.off + 13, none⟩ = some (.int .i64 (rd t189 13)) ∧ w'.cell? (ad193.add ((rd t189 13)).toNat) = some (.int .u32 (rd x7_1 (rd t189 13)))) (ds := []) #[false, false, false, false, false, false, false, false, false, false, false, false, false, false] (by kernel_rfl) rfl rfl ⟨hx222_0, hx223_0, hx224_0, hx225_0⟩ (fun hHeld => ?_); refine with_tabW bourneref03_compress.tab23 bourneref03_compress.bits23 (fun HT_ HW_ => ?_)
       generalize w105.drew = w106 at HO_7 HO_9 HO191 HB hx222_0 hx223_0 hx224_0 hx225_0 hHeld ⊢
       refine pure_ (i := 0) (N := some 157) (v := ?_) (a' := ?_) #[true, false, false, false, false, false, false, false, false, false, false, false, false, false] rfl rfl (any_of HT_.out (by kernel_rfl)) (fun _ _ _ h => h) (Or.inl ⟨by rfl, ?_⟩) ?_ ?_
       rotate_left
       ·intro w'
        go_simp
        with_reducible rfl
       rotate_left
       ·simp only [Act.put, List.setIfInBounds_toArray, List.set_cons_zero, List.set_cons_succ, i64_w, i32_w]
        rfl
       refine pure_ (i := 1) (N := some 158) (v := ?_) (a' := ?_) #[true, true, false, false, false, false, false, false, false, false, false, false, false, false] rfl rfl (any_of HT_.out (by kernel_rfl)) (fun _ _ _ h => h) (Or.inl ⟨by rfl, ?_⟩) ?_ ?_
       rotate_left
       ·intro w'
        go_simp
        with_reducible rfl
       rotate_left
       ·simp only [Act.put, List.setIfInBounds_toArray, List.set_cons_zero, List.set_cons_succ, i64_w, i32_w]
        rfl
       refine pure_ (i := 2) (N := some 159) (v := ?_) (a' := ?_) #[true, true, true, false, false, false, false, false, false, false, false, false, false, false] rfl rfl (any_of HT_.out (by kernel_rfl)) (fun _ _ _ h => h) (Or.inl ⟨by rfl, ?_⟩) ?_ ?_
       rotate_left
       ·intro w'
        go_simp
        with_reducible rfl
       rotate_left
       ·simp only [Act.put, List.setIfInBounds_toArray, List.set_cons_zero, List.set_cons_succ, i64_w, i32_w]
        rfl
       refine pure_ (i := 3) (N := some 160) (v := ?_) (a' := ?_) #[true, true, true, true, false, false, false, false, false, false, false, false, false, false] rfl rfl (any_of HT_.out (by kernel_rfl)) (fun _ _ _ h => h) (Or.inl ⟨by rfl, ?_⟩) ?_ ?_
       rotate_left
       ·intro w'
        go_simp
        with_reducible rfl
       rotate_left
       ·simp only [Act.put, List.setIfInBounds_toArray, List.set_cons_zero, List.set_cons_succ, i64_w, i32_w]
        rfl
       refine pure_ (i := 7) (N := some 164) (v := ?_) (a' := ?_) #[true, true, true, true, false, false, false, true, false, false, false, false, false, false] rfl rfl (any_of HT_.out (by kernel_rfl)) (fun _ _ _ h => h) (Or.inl ⟨by rfl, ?_⟩) ?_ ?_
       rotate_left
       ·intro w'
        go_simp
        with_reducible rfl
       rotate_left
       ·simp only [Act.put, List.setIfInBounds_toArray, List.set_cons_zero, List.set_cons_succ, i64_w, i32_w]
        rfl
       refine pure_ (i := 8) (N := some 165) (v := ?_) (a' := ?_) #[true, true, true, true, false, false, false, true, true, false, false, false, false, false] rfl rfl (any_of HT_.out (by kernel_rfl)) (fun _ _ _ h => h) (Or.inl ⟨by rfl, ?_⟩) ?_ ?_
       rotate_left
       ·intro w'
        go_simp
        with_reducible rfl
       rotate_left
       ·simp only [Act.put, List.setIfInBounds_toArray, List.set_cons_zero, List.set_cons_succ, i64_w, i32_w]
        rfl
       refine pure_ (i := 9) (N := some 166) (v := ?_) (a' := ?_) #[true, true, true, true, false, false, false, true, true, true, false, false, false, false] rfl rfl (any_of HT_.out (by kernel_rfl)) (fun _ _ _ h => h) (Or.inl ⟨by rfl, ?_⟩) ?_ ?_
       rotate_left
       ·intro w'
        go_simp
        with_reducible rfl
       rotate_left
       ·simp only [Act.put, List.setIfInBounds_toArray, List.set_cons_zero, List.set_cons_succ, i64_w, i32_w]
        rfl
       refine take_ (i := 4) (N := some 161) (v := ?_) (a' := ?_) #[true, true, true, true, true, false, false, true, true, true, false, false, false, false] rfl rfl (take_ofW HT_.out HW_.out (by kernel_rfl)) (fun _ _ _ h => h) (Or.inl ⟨by rfl, ?_⟩) hHeld ?_ ?_
       rotate_left
       ·rintro w' ⟨s0, s1, s2, s3⟩
        go_simp
        with_reducible rfl
       rotate_left
       ·simp only [Act.put, List.setIfInBounds_toArray, List.set_cons_zero, List.set_cons_succ, i64_w, i32_w]
        rfl
       refine pure_ (i := 5) (N := some 162) (v := ?_) (a' := ?_) #[true, true, true, true, true, true, false, true, true, true, false, false, false, false] rfl rfl (any_of HT_.out (by kernel_rfl)) (fun _ _ _ h => h) (Or.inl ⟨by rfl, ?_⟩) ?_ ?_
       rotate_left
       ·intro w'
        go_simp
        with_reducible rfl
       rotate_left
       ·simp only [Act.put, List.setIfInBounds_toArray, List.set_cons_zero, List.set_cons_succ, i64_w, i32_w]
        rfl
       refine take_ (i := 6) (N := some 163) (v := ?_) (a' := ?_) #[true, true, true, true, true, true, true, true, true, true, false, false, false, false] rfl rfl (take_ofW HT_.out HW_.out (by kernel_rfl)) (fun _ _ _ h => h) (Or.inl ⟨by rfl, ?_⟩) hHeld ?_ ?_
       rotate_left
       ·rintro w' ⟨s0, s1, s2, s3⟩
        go_simp
        with_reducible rfl
       rotate_left
       ·simp only [Act.put, List.setIfInBounds_toArray, List.set_cons_zero, List.set_cons_succ, i64_w, i32_w]
        rfl
       refine take_ (i := 10) (N := some 167) (v := ?_) (a' := ?_) #[true, true, true, true, true, true, true, true, true, true, true, false, false, false] rfl rfl (take_ofW HT_.out HW_.out (by kernel_rfl)) (fun _ _ _ h => h) (Or.inl ⟨by rfl, ?_⟩) hHeld ?_ ?_
       rotate_left
       ·rintro w' ⟨s0, s1, s2, s3⟩
        go_simp
        with_reducible rfl
       rotate_left
       ·simp only [Act.put, List.setIfInBounds_toArray, List.set_cons_zero, List.set_cons_succ, i64_w, i32_w]
        rfl
       refine pure_ (i := 11) (N := some 168) (v := ?_) (a' := ?_) #[true, true, true, true, true, true, true, true, true, true, true, true, false, false] rfl rfl (any_of HT_.out (by kernel_rfl)) (fun _ _ _ h => h) (Or.inl ⟨by rfl, ?_⟩) ?_ ?_
       rotate_left
       ·intro w'
        go_simp
        with_reducible rfl
       rotate_left
       ·simp only [Act.put, List.setIfInBounds_toArray, List.set_cons_zero, List.set_cons_succ, i64_w, i32_w]
        rfl
       refine take_ (i := 12) (N := some 169) (v := ?_) (a' := ?_) #[true, true, true, true, true, true, true, true, true, true, true, true, true, false] rfl rfl (take_ofW HT_.out HW_.out (by kernel_rfl)) (fun _ _ _ h => h) (Or.inl ⟨by rfl, ?_⟩) hHeld ?_ ?_
       rotate_left
       ·rintro w' ⟨s0, s1, s2, s3⟩
        go_simp
        with_reducible rfl
       rotate_left
       ·simp only [Act.put, List.setIfInBounds_toArray, List.set_cons_zero, List.set_cons_succ, i64_w, i32_w]
        rfl
       refine one_ (i := 13) (N := some 170) #[true, true, true, true, true, true, true, true, true, true, true, true, true, true] rfl rfl (one_of HT_.out (by kernel_rfl)) (by decide) (fun K hK => ?_)
       refine goes_ Tryd.func130 (by kernel_rfl) rfl #[.slice (some ⟨go13, 0, none⟩) x9_3.length co23, .int .i64 2, .int .i64 7, .int .i64 8, .int .i64 13, .int .u32 (rd x7_1 (rd t189 12)), .int .u32 (rd x7_1 (rd t189 13))] (by rfl) rfl rfl (by (try simp only [List.map_toArray, List.map_cons, List.map_nil]); first | done | rfl | (simp only [List.length_drop, List.length_take]; rfl)) ?_
       with_reducible refine (bourneref03_g.calls (fun k_ => some k_ = (.slice (some ⟨go13, 0, none⟩) x9_3.length co23 : Value).ownBlock) (.slice (some ⟨go13, 0, none⟩) x9_3.length co23) t221 2 7 8 13 (rd x7_1 (rd t189 12)) (rd x7_1 (rd t189 13)) t226 w _ ?side1 ?side2 A83.out).mono ?_
       (case side1 => repeat (first | (with_reducible first | exact HB.out | apply below_alloc | apply pw_below_drewN | apply below_drew1) | exact HB.out))
       (case side2 => exact Kd.R_tight rfl HO_9.out)
       rintro e w107 ⟨rfl, hy0, hb, hkp⟩
       have HS0_ := cell_kept (hHeld.1) hkp (by first | (rw [add_block]; exact (fun hs_ => ((((Kd.R_apart' HO191.out (Kd.R_typed HO_9.out) (by decide))).1 _ rfl).2) hs_)) | (show ¬ _; simp only [add_block]; exact (fun hs_ => ((((Kd.R_apart' HO191.out (Kd.R_typed HO_9.out) (by decide))).1 _ rfl).2) hs_)) | exact (fun hs_ => ((((Kd.R_apart' HO191.out (Kd.R_typed HO_9.out) (by decide))).1 _ rfl).2) hs_))
       have HS1_ := cell_kept (hHeld.2.1) hkp (by first | (rw [add_block]; exact (fun hs_ => (((HO_7.out).1 _ rfl)) hs_)) | (show ¬ _; simp only [add_block]; exact (fun hs_ => (((HO_7.out).1 _ rfl)) hs_)) | exact (fun hs_ => (((HO_7.out).1 _ rfl)) hs_))
       have HS2_ := cell_kept (hHeld.2.2.1) hkp (by first | (rw [add_block]; exact (fun hs_ => ((((Kd.R_apart' HO191.out (Kd.R_typed HO_9.out) (by decide))).1 _ rfl).2) hs_)) | (show ¬ _; simp only [add_block]; exact (fun hs_ => ((((Kd.R_apart' HO191.out (Kd.R_typed HO_9.out) (by decide))).1 _ rfl).2) hs_)) | exact (fun hs_ => ((((Kd.R_apart' HO191.out (Kd.R_typed HO_9.out) (by decide))).1 _ rfl).2) hs_))
       have HS3_ := cell_kept (hHeld.2.2.2) hkp (by first | (rw [add_block]; exact (fun hs_ => (((HO_7.out).1 _ rfl)) hs_)) | (show ¬ _; simp only [add_block]; exact (fun hs_ => (((HO_7.out).1 _ rfl)) hs_)) | exact (fun hs_ => (((HO_7.out).1 _ rfl)) hs_))
       refine ⟨_, rfl, ?_⟩
       have n0_ := Aside0.mk (Kd.R_mono (ok' := fun k_ => some k_ ≠ (.slice (some ⟨go13, 0, none⟩) x9_3.length co23 : Value).ownBlock) (Kd.R_keptB (HO_7.out) hkp (fun k_ hk_ hs_ => (hk_) hs_)) (fun k_ hk_ => hk_.1))
       have n1_ := Aside0.mk (Kd.R_reok rfl hy0 (fun k_ e_ => HO_9.out.1 k_ e_))
       have n2_ := Aside0.mk (Kd.R_mono (ok' := fun k_ => True) (Kd.R_keptB ((Kd.R_apart' HO191.out (Kd.R_typed HO_9.out) (by decide))) hkp (fun k_ hk_ hs_ => (hk_.2) hs_)) (fun k_ hk_ => trivial))
       have n3_ := Aside0.mk (hb)
       clear HO_7
       clear HO_9
       clear HO191
       clear HB
       have HO_7 := n0_
       have HO_9 := n1_
       have HO191 := n2_
       have HB := n3_
       clear n0_ n1_ n2_ n3_
       (try clear hb)
       (try clear hkp)
       (try clear hy0)
       refine hK.out _ _ ⟨HS0_, HS1_, HS2_, HS3_⟩ (fun hHeld => ?_)
       clear hK K
       refine norm_ (a' := ?_) ?_ ?_
       rotate_left
       ·show Act.put _ (some 170) _ = _
        simp only [Act.put, List.setIfInBounds_toArray, List.set_cons_zero, List.set_cons_succ, i64_w, i32_w]
        rfl
       refine done_ (done_of HT_.out (by kernel_rfl)) ?_
       try go_wp2
       have n0_ := Aside0.mk (Kd.R_drew HO_7.out)
       have n1_ := Aside0.mk (Kd.R_drew HO_9.out)
       have n2_ := Aside0.mk (Kd.R_drew HO191.out)
       have n3_ := Aside0.mk (below_drew1 HB.out)
       clear HO_7
       clear HO_9
       clear HO191
       clear HB
       have HO_7 := n0_
       have HO_9 := n1_
       have HO191 := n2_
       have HB := n3_
       clear n0_ n1_ n2_ n3_
       have p227 : 0 ≤ (14 : Int) := (by omega)
       have q227 : 14 < (t189.length : Int) := of_decide_eq_true (by first | (with_reducible assumption) | assumption)
       obtain ⟨ad227, e227, hx227_0⟩ := Kd.at_int (Kd.R_reads' HO191.out).2.2 14 p227 q227
       obtain rfl : ad192 = ad227 := (by injection e227)
       (try simp only [show (14 : Int).toNat = 14 from rfl, Nat.reduceMul, Nat.reduceEqDiff, Go.Addr.add, ↓reduceIte] at hx227_0)
       have qi227 : (14 < t189.length) = True := eq_true (by omega)
       (try rw [show ((14 : Int)).toNat = 14 from rfl] at hx227_0)
       replace p227 := eq_true p227
       replace q227 := eq_true q227
       have p228 : 0 ≤ ((rd t189 14) : Int) := of_decide_eq_true (by first | (with_reducible assumption) | assumption)
       have q228 : (rd t189 14) < (x7_1.length : Int) := of_decide_eq_true (by first | (with_reducible assumption) | assumption)
       obtain ⟨ad228, e228, hx228_0⟩ := Kd.at_int (Kd.R_reads' HO_7.out).2.2 (rd t189 14) p228 q228
       obtain rfl : ad193 = ad228 := (by injection e228)
       replace p228 := eq_true p228
       replace q228 := eq_true q228
       have p229 : 0 ≤ (15 : Int) := (by omega)
       have q229 : 15 < (t189.length : Int) := of_decide_eq_true (by first | (with_reducible assumption) | assumption)
       obtain ⟨ad229, e229, hx229_0⟩ := Kd.at_int (Kd.R_reads' HO191.out).2.2 15 p229 q229
       obtain rfl : ad192 = ad229 := (by injection e229)
       (try simp only [show (15 : Int).toNat = 15 from rfl, Nat.reduceMul, Nat.reduceEqDiff, Go.Addr.add, ↓reduceIte] at hx229_0)
       have qi229 : (15 < t189.length) = True := eq_true (by omega)
       (try rw [show ((15 : Int)).toNat = 15 from rfl] at hx229_0)
       replace p229 := eq_true p229
       replace q229 := eq_true q229
       have p230 : 0 ≤ ((rd t189 15) : Int) := of_decide_eq_true (by first | (with_reducible assumption) | assumption)
       have q230 : (rd t189 15) < (x7_1.length : Int) := of_decide_eq_true (by first | (with_reducible assumption) | assumption)
       obtain ⟨ad230, e230, hx230_0⟩ := Kd.at_int (Kd.R_reads' HO_7.out).2.2 (rd t189 15) p230 q230
       obtain rfl : ad193 = ad230 := (by injection e230)
       replace p230 := eq_true p230
       replace q230 := eq_true q230
       refine start_ (n := 14) (S := fun w' => w'.cell? ⟨ad192.block, ad192.off + 14, none⟩ = some (.int .i64 (rd t189 14)) ∧ w'.cell? (ad193.add ((rd t189 14)).toNat) = some (.int .u32 (rd x7_1 (rd t189 14))) ∧ w'.cell? ⟨ad192.block, ad192.off + 15, none⟩ = some (.int .i64 (rd t189 15)) ∧ w'.cell? (ad193.add ((rd t189 15)).toNat) = some (.int .u32 (rd x7_1 (rd t189 15)))) (ds := []) #[false, false, false, false, false, false, false, false, false, false, false, false, false, false] (by kernel_rfl) rfl rfl ⟨hx227_0, hx228_0, hx229_0, hx230_0⟩ (fun hHeld => ?_); refine with_tabW bourneref03_compress.tab24 bourneref03_compress.bits24 (fun HT_ HW_ => ?_)
       generalize w107.drew = w108 at HO_7 HO_9 HO191 HB hx227_0 hx228_0 hx229_0 hx230_0 hHeld ⊢
       refine pure_ (i := 0) (N := some 171) (v := ?_) (a' := ?_) #[true, false, false, false, false, false, false, false, false, false, false, false, false, false] rfl rfl (any_of HT_.out (by kernel_rfl)) (fun _ _ _ h => h) (Or.inl ⟨by rfl, ?_⟩) ?_ ?_
       rotate_left
       ·intro w'
        go_simp
        with_reducible rfl
       rotate_left
       ·simp only [Act.put, List.setIfInBounds_toArray, List.set_cons_zero, List.set_cons_succ, i64_w, i32_w]
        rfl
       refine pure_ (i := 1) (N := some 172) (v := ?_) (a' := ?_) #[true, true, false, false, false, false, false, false, false, false, false, false, false, false] rfl rfl (any_of HT_.out (by kernel_rfl)) (fun _ _ _ h => h) (Or.inl ⟨by rfl, ?_⟩) ?_ ?_
       rotate_left
       ·intro w'
        go_simp
        with_reducible rfl
       rotate_left
       ·simp only [Act.put, List.setIfInBounds_toArray, List.set_cons_zero, List.set_cons_succ, i64_w, i32_w]
        rfl
       refine pure_ (i := 2) (N := some 173) (v := ?_) (a' := ?_) #[true, true, true, false, false, false, false, false, false, false, false, false, false, false] rfl rfl (any_of HT_.out (by kernel_rfl)) (fun _ _ _ h => h) (Or.inl ⟨by rfl, ?_⟩) ?_ ?_
       rotate_left
       ·intro w'
        go_simp
        with_reducible rfl
       rotate_left
       ·simp only [Act.put, List.setIfInBounds_toArray, List.set_cons_zero, List.set_cons_succ, i64_w, i32_w]
        rfl
       refine pure_ (i := 3) (N := some 174) (v := ?_) (a' := ?_) #[true, true, true, true, false, false, false, false, false, false, false, false, false, false] rfl rfl (any_of HT_.out (by kernel_rfl)) (fun _ _ _ h => h) (Or.inl ⟨by rfl, ?_⟩) ?_ ?_
       rotate_left
       ·intro w'
        go_simp
        with_reducible rfl
       rotate_left
       ·simp only [Act.put, List.setIfInBounds_toArray, List.set_cons_zero, List.set_cons_succ, i64_w, i32_w]
        rfl
       refine pure_ (i := 7) (N := some 178) (v := ?_) (a' := ?_) #[true, true, true, true, false, false, false, true, false, false, false, false, false, false] rfl rfl (any_of HT_.out (by kernel_rfl)) (fun _ _ _ h => h) (Or.inl ⟨by rfl, ?_⟩) ?_ ?_
       rotate_left
       ·intro w'
        go_simp
        with_reducible rfl
       rotate_left
       ·simp only [Act.put, List.setIfInBounds_toArray, List.set_cons_zero, List.set_cons_succ, i64_w, i32_w]
        rfl
       refine pure_ (i := 8) (N := some 179) (v := ?_) (a' := ?_) #[true, true, true, true, false, false, false, true, true, false, false, false, false, false] rfl rfl (any_of HT_.out (by kernel_rfl)) (fun _ _ _ h => h) (Or.inl ⟨by rfl, ?_⟩) ?_ ?_
       rotate_left
       ·intro w'
        go_simp
        with_reducible rfl
       rotate_left
       ·simp only [Act.put, List.setIfInBounds_toArray, List.set_cons_zero, List.set_cons_succ, i64_w, i32_w]
        rfl
       refine pure_ (i := 9) (N := some 180) (v := ?_) (a' := ?_) #[true, true, true, true, false, false, false, true, true, true, false, false, false, false] rfl rfl (any_of HT_.out (by kernel_rfl)) (fun _ _ _ h => h) (Or.inl ⟨by rfl, ?_⟩) ?_ ?_
       rotate_left
       ·intro w'
        go_simp
        with_reducible rfl
       rotate_left
       ·simp only [Act.put, List.setIfInBounds_toArray, List.set_cons_zero, List.set_cons_succ, i64_w, i32_w]
        rfl
       refine take_ (i := 4) (N := some 175) (v := ?_) (a' := ?_) #[true, true, true, true, true, false, false, true, true, true, false, false, false, false] rfl rfl (take_ofW HT_.out HW_.out (by kernel_rfl)) (fun _ _ _ h => h) (Or.inl ⟨by rfl, ?_⟩) hHeld ?_ ?_
       rotate_left
       ·rintro w' ⟨s0, s1, s2, s3⟩
        go_simp
        with_reducible rfl
       rotate_left
       ·simp only [Act.put, List.setIfInBounds_toArray, List.set_cons_zero, List.set_cons_succ, i64_w, i32_w]
        rfl
       refine pure_ (i := 5) (N := some 176) (v := ?_) (a' := ?_) #[true, true, true, true, true, true, false, true, true, true, false, false, false, false] rfl rfl (any_of HT_.out (by kernel_rfl)) (fun _ _ _ h => h) (Or.inl ⟨by rfl, ?_⟩) ?_ ?_
       rotate_left
       ·intro w'
        go_simp
        with_reducible rfl
       rotate_left
       ·simp only [Act.put, List.setIfInBounds_toArray, List.set_cons_zero, List.set_cons_succ, i64_w, i32_w]
        rfl
       refine take_ (i := 6) (N := some 177) (v := ?_) (a' := ?_) #[true, true, true, true, true, true, true, true, true, true, false, false, false, false] rfl rfl (take_ofW HT_.out HW_.out (by kernel_rfl)) (fun _ _ _ h => h) (Or.inl ⟨by rfl, ?_⟩) hHeld ?_ ?_
       rotate_left
       ·rintro w' ⟨s0, s1, s2, s3⟩
        go_simp
        with_reducible rfl
       rotate_left
       ·simp only [Act.put, List.setIfInBounds_toArray, List.set_cons_zero, List.set_cons_succ, i64_w, i32_w]
        rfl
       refine take_ (i := 10) (N := some 181) (v := ?_) (a' := ?_) #[true, true, true, true, true, true, true, true, true, true, true, false, false, false] rfl rfl (take_ofW HT_.out HW_.out (by kernel_rfl)) (fun _ _ _ h => h) (Or.inl ⟨by rfl, ?_⟩) hHeld ?_ ?_
       rotate_left
       ·rintro w' ⟨s0, s1, s2, s3⟩
        go_simp
        with_reducible rfl
       rotate_left
       ·simp only [Act.put, List.setIfInBounds_toArray, List.set_cons_zero, List.set_cons_succ, i64_w, i32_w]
        rfl
       refine pure_ (i := 11) (N := some 182) (v := ?_) (a' := ?_) #[true, true, true, true, true, true, true, true, true, true, true, true, false, false] rfl rfl (any_of HT_.out (by kernel_rfl)) (fun _ _ _ h => h) (Or.inl ⟨by rfl, ?_⟩) ?_ ?_
       rotate_left
       ·intro w'
        go_simp
        with_reducible rfl
       rotate_left
       ·simp only [Act.put, List.setIfInBounds_toArray, List.set_cons_zero, List.set_cons_succ, i64_w, i32_w]
        rfl
       refine take_ (i := 12) (N := some 183) (v := ?_) (a' := ?_) #[true, true, true, true, true, true, true, true, true, true, true, true, true, false] rfl rfl (take_ofW HT_.out HW_.out (by kernel_rfl)) (fun _ _ _ h => h) (Or.inl ⟨by rfl, ?_⟩) hHeld ?_ ?_
       rotate_left
       ·rintro w' ⟨s0, s1, s2, s3⟩
        go_simp
        with_reducible rfl
       rotate_left
       ·simp only [Act.put, List.setIfInBounds_toArray, List.set_cons_zero, List.set_cons_succ, i64_w, i32_w]
        rfl
       refine one_ (i := 13) (N := some 184) #[true, true, true, true, true, true, true, true, true, true, true, true, true, true] rfl rfl (one_of HT_.out (by kernel_rfl)) (by decide) (fun K hK => ?_)
       refine goes_ Tryd.func130 (by kernel_rfl) rfl #[.slice (some ⟨go13, 0, none⟩) x9_3.length co23, .int .i64 3, .int .i64 4, .int .i64 9, .int .i64 14, .int .u32 (rd x7_1 (rd t189 14)), .int .u32 (rd x7_1 (rd t189 15))] (by rfl) rfl rfl (by (try simp only [List.map_toArray, List.map_cons, List.map_nil]); first | done | rfl | (simp only [List.length_drop, List.length_take]; rfl)) ?_
       with_reducible refine (bourneref03_g.calls (fun k_ => some k_ = (.slice (some ⟨go13, 0, none⟩) x9_3.length co23 : Value).ownBlock) (.slice (some ⟨go13, 0, none⟩) x9_3.length co23) t226 3 4 9 14 (rd x7_1 (rd t189 14)) (rd x7_1 (rd t189 15)) t231 w _ ?side1 ?side2 A90.out).mono ?_
       (case side1 => repeat (first | (with_reducible first | exact HB.out | apply below_alloc | apply pw_below_drewN | apply below_drew1) | exact HB.out))
       (case side2 => exact Kd.R_tight rfl HO_9.out)
       rintro e w109 ⟨rfl, hy0, hb, hkp⟩
       have HS0_ := cell_kept (hHeld.1) hkp (by first | (rw [add_block]; exact (fun hs_ => ((((Kd.R_apart' HO191.out (Kd.R_typed HO_9.out) (by decide))).1 _ rfl).2) hs_)) | (show ¬ _; simp only [add_block]; exact (fun hs_ => ((((Kd.R_apart' HO191.out (Kd.R_typed HO_9.out) (by decide))).1 _ rfl).2) hs_)) | exact (fun hs_ => ((((Kd.R_apart' HO191.out (Kd.R_typed HO_9.out) (by decide))).1 _ rfl).2) hs_))
       have HS1_ := cell_kept (hHeld.2.1) hkp (by first | (rw [add_block]; exact (fun hs_ => (((HO_7.out).1 _ rfl)) hs_)) | (show ¬ _; simp only [add_block]; exact (fun hs_ => (((HO_7.out).1 _ rfl)) hs_)) | exact (fun hs_ => (((HO_7.out).1 _ rfl)) hs_))
       have HS2_ := cell_kept (hHeld.2.2.1) hkp (by first | (rw [add_block]; exact (fun hs_ => ((((Kd.R_apart' HO191.out (Kd.R_typed HO_9.out) (by decide))).1 _ rfl).2) hs_)) | (show ¬ _; simp only [add_block]; exact (fun hs_ => ((((Kd.R_apart' HO191.out (Kd.R_typed HO_9.out) (by decide))).1 _ rfl).2) hs_)) | exact (fun hs_ => ((((Kd.R_apart' HO191.out (Kd.R_typed HO_9.out) (by decide))).1 _ rfl).2) hs_))
       have HS3_ := cell_kept (hHeld.2.2.2) hkp (by first | (rw [add_block]; exact (fun hs_ => (((HO_7.out).1 _ rfl)) hs_)) | (show ¬ _; simp only [add_block]; exact (fun hs_ => (((HO_7.out).1 _ rfl)) hs_)) | exact (fun hs_ => (((HO_7.out).1 _ rfl)) hs_))
       refine ⟨_, rfl, ?_⟩
       have n0_ := Aside0.mk (Kd.R_mono (ok' := fun k_ => some k_ ≠ (.slice (some ⟨go13, 0, none⟩) x9_3.length co23 : Value).ownBlock) (Kd.R_keptB (HO_7.out) hkp (fun k_ hk_ hs_ => (hk_) hs_)) (fun k_ hk_ => hk_.1))
       have n1_ := Aside0.mk (Kd.R_reok rfl hy0 (fun k_ e_ => HO_9.out.1 k_ e_))
       have n2_ := Aside0.mk (Kd.R_mono (ok' := fun k_ => True) (Kd.R_keptB ((Kd.R_apart' HO191.out (Kd.R_typed HO_9.out) (by decide))) hkp (fun k_ hk_ hs_ => (hk_.2) hs_)) (fun k_ hk_ => trivial))
       have n3_ := Aside0.mk (hb)
       clear HO_7
       clear HO_9
       clear HO191
       clear HB
       have HO_7 := n0_
       have HO_9 := n1_
       have HO191 := n2_
       have HB := n3_
       clear n0_ n1_ n2_ n3_
       (try clear hb)
       (try clear hkp)
       (try clear hy0)
       refine hK.out _ _ ⟨HS0_, HS1_, HS2_, HS3_⟩ (fun hHeld => ?_)
       clear hK K
       refine norm_ (a' := ?_) ?_ ?_
       rotate_left
       ·show Act.put _ (some 184) _ = _
        simp only [Act.put, List.setIfInBounds_toArray, List.set_cons_zero, List.set_cons_succ, i64_w, i32_w]
        rfl
       refine done_ (done_of HT_.out (by kernel_rfl)) ?_
       try go_wp2
       (try simp only [← hl9_3])
       go_roundg k3
       case measure => have := HK1.out; have := HJ15.out; have := HK3.out; omega
       case rel => exact ⟨(t231), (wrap64 (x11_3 + 1)), (by first | rfl | (simp; done) | (simp [*]; done)), H', ⟨by have := HK1.out; have := HJ15.out; have := HK3.out; omega⟩, ⟨by (try simp only [hl9_15]); (try simp only [hl9_3]); (with_reducible repeat (first | apply Kd.R_alloc | apply Kd.R_drewN | apply Kd.R_drew)); exact HO_7.out⟩, ⟨by (try simp only [hl9_15]); (try simp only [hl9_3]); (with_reducible repeat (first | apply Kd.R_alloc | apply Kd.R_drewN | apply Kd.R_drew)); exact HO_9.out⟩, ⟨by repeat (first | (with_reducible first | exact HB.out | apply below_alloc | apply pw_below_drewN | apply below_drew1) | exact HB.out)⟩⟩

end Go.Proofs.YtdgejkiackeieaaDoor.PDigestTells
