/- The contracts of digest's Hex, Unhex and Sum in the form that the printed callers take. -/
import Derived.Test.YtdgejkiackeieaaDoorUnhexT
import Derived.Test.YtdgejkiackeieaaDoorSumT
set_option linter.unusedVariables false
namespace Go.Proofs.YtdgejkiackeieaaDoor
open Go.RowKit
/-- The tables of package digest hold their initial data, in blocks of the program's own. -/
structure DigW (w : World) : Prop where mk :: (ok : DigOk w) (two : 2 ≤ w.heap.size)
theorem DigW.below {w w' : World} (h : DigW w) (hb : Below w.heap.size w w') : DigW w' := ⟨h.ok.below hb, Nat.le_trans h.two hb.size⟩
def digest_Hex.f (a0 : ByteArray) : Option ByteArray := if a0.size ≤ 1000000 then some ⟨(hexL a0.data.toList).toArray⟩ else none
theorem digest_Hex.calls (a0 : ByteArray) (r : ByteArray) (w : World) (h : digest_Hex.f a0 = some r) :
    Calls Tryd.prog 26 #[.string a0] w fun e w' => e = .returned (.string r) ∧ Below w.heap.size w w' := by
  unfold digest_Hex.f at h
  split at h
  · cases h; exact hex_walk a0 w ‹_›
  · cases h
def digest_Unhex.f (a0 : ByteArray) : Option (ByteArray × Bool) := if a0.size ≤ 1000000 then some (unhexR a0.data.toList) else none
theorem digest_Unhex.calls (a0 : ByteArray) (r1 : ByteArray) (r2 : Bool) (w : World) (h : digest_Unhex.f a0 = some (r1, r2)) :
    Calls Tryd.prog 27 #[.string a0] w fun e w' => e = .returned (.tuple #[.string r1, .bool r2]) ∧ Below w.heap.size w w' := by
  unfold digest_Unhex.f at h
  split at h
  · have e : unhexR a0.data.toList = (r1, r2) := Option.some.inj h
    have := unhex_walk a0 w ‹_›
    rw [e] at this
    exact this
  · cases h
def digest_Sum.f (a0 : ByteArray) : Option ByteArray := if a0.size ≤ 1000000 then some ⟨(sumBytes a0).toArray⟩ else none
theorem digest_Sum.calls (a0 : ByteArray) (r : ByteArray) (w : World) (hGD : DigW w) (h : digest_Sum.f a0 = some r) :
    Calls Tryd.prog 31 #[.string a0] w fun e w' => e = .returned (.string r) ∧ Below w.heap.size w w' := by
  unfold digest_Sum.f at h
  split at h
  · cases h; exact sum_any a0 ‹_› w hGD.ok hGD.two
  · cases h
end Go.Proofs.YtdgejkiackeieaaDoor
