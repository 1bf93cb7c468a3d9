/- The row that a conversion of a string to bytes makes: its bytes, then zeros, with the mark behind them; what a store leaves of it. -/
import Derived.Test.YtdgejkiackeieaaDoorMixT
import Derived.Test.YtdgejkiackeieaaDoorPl
import Derived.Laws.BytesArg
set_option linter.unusedVariables false
set_option linter.unusedSimpArgs false
namespace Go.Proofs.YtdgejkiackeieaaDoor
open Go.RowKit
/-- Block g holds the numbers xs as bytes, then zeros; nothing of it is frozen. -/
def Byt (w : World) (g : Nat) (xs : List Int) : Prop :=
  ∃ C : Nat, w.heap[g]? = some (.cells ((xs.map (Value.int .u8)).toArray ++ Array.replicate C (Value.int .u8 0)) 5 (xs.length + C, xs.length + C + 1))
theorem Byt.cell {w g xs} (h : Byt w g xs) (i : Nat) (hi : i < xs.length) : w.cell? ⟨g, i, none⟩ = some (.int .u8 (el xs i)) := by
  obtain ⟨C, h⟩ := h
  simp [World.cell?, h, el, hi, Array.getElem?_append]
theorem Byt.frozen {w g xs} (h : Byt w g xs) (i : Nat) (hi : i < xs.length) : w.frozen? ⟨g, i, none⟩ = false := by
  obtain ⟨C, h⟩ := h
  simp [World.frozen?, h]
  omega
theorem Byt.set {w g xs} (h : Byt w g xs) (i : Nat) (x : Int) (hi : i < xs.length) : Byt (w.setCell ⟨g, i, none⟩ (.int .u8 x)) g (xs.set i x) := by
  obtain ⟨C, h⟩ := h
  refine ⟨C, ?_⟩
  have e : ((xs.map (Value.int .u8)).toArray ++ Array.replicate C (Value.int .u8 0)).setIfInBounds i (.int .u8 x) = ((xs.set i x).map (Value.int .u8)).toArray ++ Array.replicate C (Value.int .u8 0) := by
    apply Array.ext'
    simp [List.map_set, List.set_append, hi]
  simp only [World.setCell, Array.getElem?_modify, h, if_true, Option.map_some, e, List.length_set]
  rfl
theorem Byt.drew {w g xs} (h : Byt w g xs) : Byt w.drew g xs := h
theorem step_byt {w g xs w'} (h : Byt w g xs) (i : Nat) (x : Int) (hi : i < xs.length) (hw : (w.setCell ⟨g, i, none⟩ (.int .u8 x)).drew = w') : Byt w' g (xs.set i x) ∧ Only g w w' := by
  subst hw
  exact ⟨h.set i x hi, (Only.set g w i _).drew⟩
/-- The numbers as integers. -/
def ints (l : List Nat) : List Int := l.map fun (n : Nat) => (n : Int)
theorem ints_length (l : List Nat) : (ints l).length = l.length := List.length_map ..
theorem byt_made (w : World) (s : ByteArray) : Byt (Lib.bytesWorld w 5 s) w.heap.size (ints (nb s)) := by
  refine ⟨grownCap w s.size 0 5 - s.size, ?_⟩
  have e : Lib.bytesCells w 5 s = ((ints (nb s)).map (Value.int .u8)).toArray ++ Array.replicate (grownCap w s.size 0 5 - s.size) (.int .u8 0) := by
    unfold Lib.bytesCells
    congr 1
    apply Array.ext'
    simp [ints, nb]
  have hl : (Lib.bytesCells w 5 s).size = (ints (nb s)).length + (grownCap w s.size 0 5 - s.size) := by
    rw [e]; simp
  rw [Lib.bytesWorld_at_new, hl, e]
theorem byt_made_below {B : Nat} (w : World) (s : ByteArray) (hB : B ≤ w.heap.size) : Below B w (Lib.bytesWorld w 5 s) :=
  ⟨rfl, rfl, rfl, by rw [Lib.bytesWorld_size]; omega, fun i hi => Lib.bytesWorld_at_old w 5 s i (by omega)⟩
/-- The bytes made into a string. -/
theorem byt_string {w g xs} (h : Byt w g xs) (n c : Nat) (hn : n = xs.length) : (convert 30 9 (.slice (some ⟨g, 0, none⟩) n c)).run Tryd.prog w = .ok (.string (strOfNums xs)) w := by
  subst hn
  exact run_convert_bytes_arg w 30 5 Tryd.underlying30 Tryd.underlying5 g 0 _ c xs rfl (fun i hi => by rw [Nat.zero_add]; exact h.cell i hi) 9 Tryd.underlying9
theorem nb_ints (l : List Nat) (h : ∀ c ∈ l, c < 256) : nb (strOfNums (ints l)) = l := by
  rw [nb_nums]
  · unfold ints; rw [List.map_map]; conv => rhs; rw [← List.map_id l]
    exact List.map_congr_left (fun c _ => by simp)
  · intro z hz
    simp only [ints, List.mem_map] at hz
    obtain ⟨c, hc, rfl⟩ := hz
    have := h c hc
    omega
end Go.Proofs.YtdgejkiackeieaaDoor
