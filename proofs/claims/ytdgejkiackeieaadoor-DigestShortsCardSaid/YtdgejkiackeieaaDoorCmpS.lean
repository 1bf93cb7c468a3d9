/- What digest's compress computes, in plain words; what its blocks hold. -/
import Derived.Test.YtdgejkiackeieaaDoorWordsT
import Derived.Laws.CopyOwn
import Derived.Deep.DeepCutAuto
import Derived.Deep.CutBlock
set_option linter.unusedVariables false
set_option linter.unusedSimpArgs false
namespace Go.Proofs.YtdgejkiackeieaaDoor
open Go.RowKit Go.Proofs.YtdgejkiackeieaaDoorW.PrintLast
def firstI : List Int := [1779033703, 3144134277, 1013904242, 2773480762, 1359893119, 2600822924, 528734635, 1541459225]
def ordersN : List Nat := [0, 1, 2, 3, 4, 5, 6, 7, 8, 9, 10, 11, 12, 13, 14, 15,
  14, 10, 4, 8, 9, 15, 13, 6, 1, 12, 0, 2, 11, 7, 5, 3,
  11, 8, 12, 0, 5, 2, 15, 13, 10, 14, 3, 6, 7, 1, 9, 4,
  7, 9, 3, 1, 13, 12, 11, 14, 2, 6, 5, 10, 4, 0, 15, 8,
  9, 0, 5, 7, 2, 4, 10, 15, 14, 1, 11, 12, 6, 8, 3, 13,
  2, 12, 6, 10, 0, 11, 8, 3, 4, 13, 7, 5, 15, 14, 1, 9,
  12, 5, 1, 15, 14, 13, 4, 10, 0, 7, 6, 3, 9, 2, 8, 11,
  13, 11, 7, 14, 12, 1, 3, 9, 5, 0, 15, 4, 8, 6, 2, 10,
  6, 15, 14, 9, 11, 3, 0, 8, 12, 2, 13, 7, 1, 4, 10, 5,
  10, 2, 8, 4, 7, 6, 1, 5, 15, 11, 9, 14, 3, 12, 13, 0]
/-- The tables of package digest hold their initial data. -/
structure DigOk (w : World) : Prop where
  first : ∃ t fr, w.heap[0]? = some (.cells (firstI.map (Value.int .u32)).toArray t fr)
  orders : ∃ t fr, w.heap[1]? = some (.cells (ordersN.map (fun (n : Nat) => Value.int .u8 (n : Int))).toArray t fr)
theorem DigOk.below {w w' : World} (h : DigOk w) (hb : Below w.heap.size w w') : DigOk w' := by
  obtain ⟨⟨t, fr, h0⟩, ⟨t1, fr1, h1⟩⟩ := h
  exact ⟨⟨t, fr, (hb.block 0 (Array.getElem?_eq_some_iff.1 h0).1).trans h0⟩, ⟨t1, fr1, (hb.block 1 (Array.getElem?_eq_some_iff.1 h1).1).trans h1⟩⟩
/-- The orders' entries. -/
def ordN (r i : Nat) : Nat := ordersN.getD (16 * r + i) 0
def zI (r : Nat) : List Int := (List.range 16).map fun i => (ordN r i : Int)
theorem ordN_lt (r i : Nat) : ordN r i < 16 := by
  unfold ordN
  by_cases h : 16 * r + i < 160
  · have : ∀ k : Fin 160, ordersN.getD k.val 0 < 16 := by decide +kernel
    exact this ⟨_, h⟩
  · have h160 : ordersN.length = 160 := by decide +kernel
    rw [List.getD_eq_getElem?_getD, List.getElem?_eq_none (by omega)]; decide
theorem el_zI (r i : Nat) (h : i < 16) : el (zI r) i = (ordN r i : Int) := by
  unfold el zI; simp [h]
def half1 (M : List Int) (r : Nat) (V : List Int) : Nat → List Int
  | 0 => V
  | i + 1 => mixI (half1 M r V i) i (4 + i) (8 + i) (12 + i) (el M (ordN r (2 * i))) (el M (ordN r (2 * i + 1)))
def half2 (M : List Int) (r : Nat) (V : List Int) : Nat → List Int
  | 0 => V
  | i + 1 => mixI (half2 M r V i) i (4 + (i + 1) % 4) (8 + (i + 2) % 4) (12 + (i + 3) % 4) (el M (ordN r (8 + 2 * i))) (el M (ordN r (9 + 2 * i)))
def roundsI (M V : List Int) : Nat → List Int
  | 0 => V
  | r + 1 => half2 M r (half1 M r (roundsI M V r) 4) 4
def finI (H V : List Int) : Nat → List Int
  | 0 => H
  | k + 1 => (finI H V k).set k (xorI (el (finI H V k) k) (xorI (el V k) (el V (k + 8))))
/-- The working words at the start of the rounds. -/
def startI (H : List Int) (n : Nat) (last : Bool) : List Int :=
  let V := H ++ firstI
  let V1 := (V.set 12 (xorI (el V 12) n)).set 13 (xorI (el V 13) ((n : Int) / 4294967296))
  if last then V1.set 14 (xorI IntKind.u32.max (el V 14)) else V1
def compressI (H : List Int) (s : ByteArray) (n : Nat) (last : Bool) : List Int := finI H (roundsI (wordsK s s.size) (startI H n last) 10) 8
theorem mixI_length (V : List Int) (a b c d : Nat) (x y : Int) : (mixI V a b c d x y).length = V.length := by simp [mixI]
theorem half1_length (M : List Int) (r : Nat) (V : List Int) (i : Nat) : (half1 M r V i).length = V.length := by
  induction i with
  | zero => rfl
  | succ i ih => rw [half1, mixI_length, ih]
theorem half2_length (M : List Int) (r : Nat) (V : List Int) (i : Nat) : (half2 M r V i).length = V.length := by
  induction i with
  | zero => rfl
  | succ i ih => rw [half2, mixI_length, ih]
theorem roundsI_length (M V : List Int) (r : Nat) : (roundsI M V r).length = V.length := by
  induction r with
  | zero => rfl
  | succ i ih => rw [roundsI, half2_length, half1_length, ih]
theorem finI_length (H V : List Int) (k : Nat) : (finI H V k).length = H.length := by
  induction k with
  | zero => rfl
  | succ i ih => rw [finI, List.length_set, ih]
theorem startI_length (H : List Int) (hH : H.length = 8) (n : Nat) (last : Bool) : (startI H n last).length = 16 := by
  unfold startI
  cases last <;> simp [hH, firstI]
set_option maxRecDepth 100000 in
theorem idx_order : ∀ r, r < 10 → ∀ w, (Instr.index 129 (.agg (ordersN.map (fun (n : Nat) => Value.int .u8 (n : Int))).toArray) (.int .i64 (r : Nat))).run Tryd.prog w = .ok (.agg ((zI r).map (Value.int .u8)).toArray) w
  | 0, _, _ => by kernel_rfl
  | 1, _, _ => by kernel_rfl
  | 2, _, _ => by kernel_rfl
  | 3, _, _ => by kernel_rfl
  | 4, _, _ => by kernel_rfl
  | 5, _, _ => by kernel_rfl
  | 6, _, _ => by kernel_rfl
  | 7, _, _ => by kernel_rfl
  | 8, _, _ => by kernel_rfl
  | 9, _, _ => by kernel_rfl
  | n + 10, h, _ => absurd h (by omega)
/-- What the blocks of compress hold: the state, the result, the words of the block, the working words. -/
structure CW (w W : World) (g9 : Nat) (H R M V : List Int) : Prop where
  h : Arr .u32 98 W w.heap.size H
  r : Arr .u32 98 W (w.heap.size + 1) R
  m : Arr .u32 126 W g9 M
  v : Arr .u32 126 W (g9 + 1) V
  dig : DigOk W
  below : Below w.heap.size w W
  lt : w.heap.size + 1 < g9
  two : 2 ≤ w.heap.size
theorem Arr.below {k T w g xs w'} (h : Arr k T w g xs) {B : Nat} (hb : Below B w w') (hg : g < B) : Arr k T w' g xs := (hb.block g hg).trans h
theorem DigOk.below' {w w' : World} (h : DigOk w) {B : Nat} (hb : Below B w w') (hB : 2 ≤ B) : DigOk w' := by
  obtain ⟨⟨t, fr, h0⟩, ⟨t1, fr1, h1⟩⟩ := h
  exact ⟨⟨t, fr, (hb.block 0 (by omega)).trans h0⟩, ⟨t1, fr1, (hb.block 1 (by omega)).trans h1⟩⟩
/-- The working words alone have changed. -/
theorem CW.setV {w W W' : World} {g9 : Nat} {H R M V V' : List Int} (c : CW w W g9 H R M V) (hb : Below (g9 + 1) W W') (hv : Arr .u32 126 W' (g9 + 1) V') : CW w W' g9 H R M V' :=
  ⟨c.h.below hb (by have := c.lt; omega), c.r.below hb (by have := c.lt; omega), c.m.below hb (by omega), hv, c.dig.below' hb (by have := c.lt; have := c.two; omega), c.below.trans (hb.mono (by have := c.lt; omega)), c.lt, c.two⟩
/-- New blocks alone. -/
theorem CW.more {w W W' : World} {g9 : Nat} {H R M V : List Int} (c : CW w W g9 H R M V) (hb : Below W.heap.size W W') : CW w W' g9 H R M V := by
  have hl : g9 + 1 < W.heap.size := (Array.getElem?_eq_some_iff.1 c.v).1
  exact c.setV (hb.mono (by omega)) (c.v.below hb hl)
/-- The state alone has changed. -/
theorem CW.setH {w W W' : World} {g9 : Nat} {H H' R M V : List Int} (c : CW w W g9 H R M V) (ho : Only w.heap.size W W') (hh : Arr .u32 98 W' w.heap.size H') : CW w W' g9 H' R M V :=
  ⟨hh, (ho.block _ (by omega)).trans c.r, (ho.block _ (by have := c.lt; omega)).trans c.m, (ho.block _ (by have := c.lt; omega)).trans c.v, c.dig.below' (ho.below (Nat.le_refl _)) c.two, c.below.trans (ho.below (Nat.le_refl _)), c.lt, c.two⟩
theorem cells_at {T w g xs} (h : Arr .u32 T w g xs) : ∀ (j : Nat) v, (xs.map (Value.int .u32))[j]? = some v → w.cell? ((⟨g, 0, none⟩ : Addr).add j) = some v := by
  intro j v hv
  have : (⟨g, 0, none⟩ : Addr).add j = ⟨g, j, none⟩ := by unfold Addr.add; split <;> simp_all
  rw [this, cell_of_row w g j _ T (0, 0) h]
  simpa using hv
theorem cells_at0 {t fr} {w : World} {g : Nat} {xs : List Int} (h : w.heap[g]? = some (.cells (xs.map (Value.int .u32)).toArray t fr)) : ∀ (j : Nat) v, (xs.map (Value.int .u32))[j]? = some v → w.cell? ((⟨g, 0, none⟩ : Addr).add j) = some v := by
  intro j v hv
  have : (⟨g, 0, none⟩ : Addr).add j = ⟨g, j, none⟩ := by unfold Addr.add; split <;> simp_all
  rw [this, cell_of_row w g j _ t fr h]
  simpa using hv
theorem ones_mem (X : List Int) : ∀ v ∈ X.map (Value.int .u32), v.oneCell' = true := by
  intro v hv
  obtain ⟨x, _, rfl⟩ := List.mem_map.1 hv
  rfl
theorem splice_map (f : Int → Value) (A B : List Int) (o : Nat) : splice (A.map f) o (B.map f) = (splice A o B).map f := by simp [splice, List.map_take, List.map_drop]
theorem splice_first (H : List Int) (hH : H.length = 8) : splice (splice (List.replicate 16 0) 0 H) 8 firstI = H ++ firstI := by
  have h8 : firstI.length = 8 := rfl
  simp [splice, hH, h8, List.take_append, List.drop_append]
theorem arr_splice {k T w g} {A B : List Int} {o : Nat} (h : w.heap[g]? = some (.cells (splice (A.map (Value.int k)) o (B.map (Value.int k))).toArray T (0, 0))) : Arr k T w g (splice A o B) := by
  rw [splice_map] at h
  exact h
abbrev z16 : Array Value := #[Value.int .u32 0, .int .u32 0, .int .u32 0, .int .u32 0, .int .u32 0, .int .u32 0, .int .u32 0, .int .u32 0, .int .u32 0, .int .u32 0, .int .u32 0, .int .u32 0, .int .u32 0, .int .u32 0, .int .u32 0, .int .u32 0]
theorem cw_start (w w1 : World) (H M : List Int) (hr : w1.heap[w.heap.size]? = some (.cells (H.map (Value.int .u32)).toArray 98 (0, 0))) (hr1 : w1.heap[w.heap.size + 1]? = some (.cells ((List.replicate 8 (0 : Int)).map (Value.int .u32)).toArray 98 (0, 0)))
    (hs1 : w.heap.size + 1 + 1 ≤ w1.heap.size) (hb : Below w.heap.size w w1) (hG : DigOk w) (h2 : 2 ≤ w.heap.size) :
    CW w (((w1.alloc (.cells z16 126)).setRow w1.heap.size (M.map (Value.int .u32)).toArray).alloc (.cells z16 126)) w1.heap.size H (List.replicate 8 0) M (List.replicate 16 0) := by
  have e1 : ((w1.alloc (.cells z16 126)).setRow w1.heap.size (M.map (Value.int .u32)).toArray).heap.size = w1.heap.size + 1 := by rw [size_setRow, World.size_alloc]
  have old : ∀ k, k < w1.heap.size → (((w1.alloc (.cells z16 126)).setRow w1.heap.size (M.map (Value.int .u32)).toArray).alloc (.cells z16 126)).heap[k]? = w1.heap[k]? := by
    intro k hk
    rw [Lib.alloc_old _ _ k (by omega), setRow_other _ _ _ _ (by omega), Lib.alloc_old _ _ k hk]
  have hB : Below w1.heap.size w1 (((w1.alloc (.cells z16 126)).setRow w1.heap.size (M.map (Value.int .u32)).toArray).alloc (.cells z16 126)) := by
    refine (below_setRow (((Below.refl _ w1).alloc (Nat.le_refl _) _)) (Nat.le_refl _) _).alloc (by omega) _
  refine ⟨?_, ?_, ?_, ?_, ?_, hb.trans (hB.mono (by omega)), by omega, h2⟩
  · exact (old _ (by omega)).trans hr
  · exact (old _ (by omega)).trans hr1
  · refine (Lib.alloc_old _ _ w1.heap.size (by omega)).trans (setRow_heap _ _ z16 _ 126 (0, 0) (heap_alloc_new _ _))
  · have := heap_alloc_new ((w1.alloc (.cells z16 126)).setRow w1.heap.size (M.map (Value.int .u32)).toArray) (.cells z16 126)
    rw [e1] at this
    exact this
  · exact (hG.below hb).below' hB (by omega)
theorem w64_add (c : Int) (i b : Nat) (h0 : 0 ≤ c) (h : c + i < 1000) (e : c + i = (b : Int)) : wrap64 (c + (i : Int)) = b := by unfold wrap64; omega
theorem w64_plus (c : Int) (i b : Nat) (h0 : 0 ≤ c) (h : c + i < 1000) (e : i + c = (b : Int)) : wrap64 ((i : Int) + c) = b := by unfold wrap64; omega
theorem w64_mul (i p : Nat) (h : i < 100) (e : 2 * i = p) : wrap64 (2 * (i : Int)) = p := by unfold wrap64; omega
theorem w64_suc (p q : Nat) (h : p < 100) (e : p + 1 = q) : wrap64 ((p : Int) + 1) = q := by unfold wrap64; omega
theorem w64_rem (c : Int) (j b : Nat) (h0 : 0 ≤ c) (h : c < 1000) (e : c + ((j % 4 : Nat) : Int) = (b : Int)) : wrap64 (c + (j : Int).tmod 4) = b := by rw [Int.tmod_eq_emod_of_nonneg (by omega)]; unfold wrap64; omega
theorem zI_length (r : Nat) : (zI r).length = 16 := by simp [zI]
abbrev z8 : Array Value := #[Value.int .u8 0, .int .u8 0, .int .u8 0, .int .u8 0, .int .u8 0, .int .u8 0, .int .u8 0, .int .u8 0, .int .u8 0, .int .u8 0, .int .u8 0, .int .u8 0, .int .u8 0, .int .u8 0, .int .u8 0, .int .u8 0]
theorem ones_u8 (X : List Int) : (X.map (Value.int .u8)).toArray.all (·.oneCell') = true := by
  rw [Array.all_eq_true']
  intro v hv
  simp at hv
  obtain ⟨x, _, rfl⟩ := hv
  rfl
theorem cw_z {w wo : World} {g9 : Nat} {H R M V : List Int} (c : CW w wo g9 H R M V) (Z : List Int) (hZ : Z.length = 16) :
    CW w ((wo.alloc (.cells z8 128)).setRow wo.heap.size (Z.map (Value.int .u8)).toArray) g9 H R M V ∧ Arr .u8 128 ((wo.alloc (.cells z8 128)).setRow wo.heap.size (Z.map (Value.int .u8)).toArray) wo.heap.size Z :=
  ⟨c.more (below_setRow ((Below.refl _ wo).alloc (Nat.le_refl _) _) (Nat.le_refl _) _), setRow_heap _ _ z8 _ 128 (0, 0) (heap_alloc_new _ _)⟩
theorem q_half1 (i b c d p2 p3 : Nat) (h : i < 4) (hb : 4 + i = b) (hc : 8 + i = c) (hd : 12 + i = d) (hp : 2 * i = p2) (hq : 2 * i + 1 = p3) :
    wrap64 (4 + (i : Int)) = b ∧ wrap64 (8 + (i : Int)) = c ∧ wrap64 (12 + (i : Int)) = d ∧ wrap64 (2 * (i : Int)) = p2 ∧ wrap64 ((p2 : Int) + 1) = p3 :=
  ⟨w64_add 4 i b (by omega) (by omega) (by omega), w64_add 8 i c (by omega) (by omega) (by omega), w64_add 12 i d (by omega) (by omega) (by omega), w64_mul i p2 (by omega) hp, w64_suc p2 p3 (by omega) (by omega)⟩
theorem q_half2 (i b c d p2 p3 : Nat) (h : i < 4) (hb : 4 + (i + 1) % 4 = b) (hc : 8 + (i + 2) % 4 = c) (hd : 12 + (i + 3) % 4 = d) (hp : 8 + 2 * i = p2) (hq : 9 + 2 * i = p3) :
    ∃ m2 j1 j2 j3 : Nat, wrap64 (4 + (j1 : Int).tmod 4) = b ∧ wrap64 (8 + (j2 : Int).tmod 4) = c ∧ wrap64 (12 + (j3 : Int).tmod 4) = d ∧ wrap64 (2 * (i : Int)) = m2 ∧ wrap64 (8 + (m2 : Int)) = p2 ∧ wrap64 (9 + (m2 : Int)) = p3 ∧
      wrap64 ((i : Int) + 1) = j1 ∧ wrap64 ((i : Int) + 2) = j2 ∧ wrap64 ((i : Int) + 3) = j3 :=
  ⟨2 * i, i + 1, i + 2, i + 3, w64_rem 4 (i + 1) b (by omega) (by omega) (by omega), w64_rem 8 (i + 2) c (by omega) (by omega) (by omega), w64_rem 12 (i + 3) d (by omega) (by omega) (by omega), w64_mul i _ (by omega) rfl,
    w64_add 8 (2 * i) p2 (by omega) (by omega) (by omega), w64_add 9 (2 * i) p3 (by omega) (by omega) (by omega), w64_plus 1 i _ (by omega) (by omega) (by omega), w64_plus 2 i _ (by omega) (by omega) (by omega), w64_plus 3 i _ (by omega) (by omega) (by omega)⟩
/-- A fact that neither the walk nor omega looks into. -/
structure Asd (p : Prop) : Prop where mk :: (out : p)
theorem CW.put {w W : World} {g9 : Nat} {H R M V : List Int} (c : CW w W g9 H R M V) (i : Nat) (x : Int) : CW w (W.setCell ⟨g9 + 1, i, none⟩ (.int .u32 x)) g9 H R M (V.set i x) :=
  c.setV ((Below.refl (g9 + 1) W).setCell (p := ⟨g9 + 1, i, none⟩) (Nat.le_refl _) _) (c.v.set i x)
theorem startI_false (H : List Int) (n : Nat) : startI H n false = ((H ++ firstI).set 12 (xorI (el (H ++ firstI) 12) n)).set 13 (xorI (el (H ++ firstI) 13) ((n : Int) / 4294967296)) := rfl
theorem startI_true (H : List Int) (n : Nat) : startI H n true = (((H ++ firstI).set 12 (xorI (el (H ++ firstI) 12) n)).set 13 (xorI (el (H ++ firstI) 13) ((n : Int) / 4294967296))).set 14 (xorI IntKind.u32.max (el (H ++ firstI) 14)) := rfl
end Go.Proofs.YtdgejkiackeieaaDoor
