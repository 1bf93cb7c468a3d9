/- The contracts of digest's Short and of the law's helper 'flipped' in the form that the printed callers take. -/
import Derived.Test.YtdgejkiackeieaaDoorShortT
import Derived.Test.YtdgejkiackeieaaDoorFlipT
set_option linter.unusedVariables false
namespace Go.Proofs.YtdgejkiackeieaaDoor
open Go.RowKit
def digest_Short.f (a0 : ByteArray) : Option Int := if a0.size ≤ 1000000 then some (shortN a0 : Int) else none
theorem digest_Short.calls (a0 : ByteArray) (r : Int) (w : World) (hGD : DigW w) (h : digest_Short.f a0 = some r) :
    Calls Tryd.prog 33 #[.string a0] w fun e w' => e = .returned (.int .i64 r) ∧ Below w.heap.size w w' := by
  unfold digest_Short.f at h
  split at h
  · cases h; exact short_any a0 w ‹_› hGD
  · cases h
def bournelaw03_flipped.f (a0 : ByteArray) (a1 a2 : Int) : Option ByteArray := if a0.size ≤ 2000 ∧ 0 ≤ a1 ∧ a1 < 20000 then some (strOfNums (flipI (ints (nb a0)) a1.toNat a2 16)) else none
theorem bournelaw03_flipped.calls (a0 : ByteArray) (a1 a2 : Int) (r : ByteArray) (w : World) (h : bournelaw03_flipped.f a0 a1 a2 = some r) :
    Calls Tryd.prog 28 #[.string a0, .int .i64 a1, .int .i64 a2] w fun e w' => e = .returned (.string r) ∧ Below w.heap.size w w' := by
  unfold bournelaw03_flipped.f at h
  split at h
  · rename_i hc
    obtain ⟨h1, h2, h3⟩ := hc
    cases h
    obtain ⟨b, rfl⟩ := Int.eq_ofNat_of_zero_le h2
    exact flipped_any a0 h1 b (by omega) a2 w
  · cases h
end Go.Proofs.YtdgejkiackeieaaDoor
