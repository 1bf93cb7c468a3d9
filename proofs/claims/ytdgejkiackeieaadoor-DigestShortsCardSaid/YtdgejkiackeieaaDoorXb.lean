/- The contracts of digest.Crc and of the examples' function of layer 3 in the form that the printed callers take. -/
import Derived.Test.YtdgejkiackeieaaDoorCrc
set_option linter.unusedVariables false
namespace Go.Proofs.YtdgejkiackeieaaDoor
open Go.RowKit Go.Proofs.YtdgejkiackeieaaDoorW.PrintWords
def digest_Crc.f (a0 : ByteArray) : Option Int := if a0.size ≤ 1000000 then some (crcN (nb a0) : Int) else none
theorem digest_Crc.calls (a0 : ByteArray) (r : Int) (w : World) (h : digest_Crc.f a0 = some r) :
    Calls Tryd.prog 29 #[.string a0] w fun e w' => e = .returned (.int .i64 r) ∧ Drawn0 w w' := by
  unfold digest_Crc.f at h
  split at h
  · obtain ⟨k, hk⟩ := CrcPrint.f_eq a0 ‹_›
    exact PSmall.digest_Crc.calls k a0 r w (hk.trans h)
  · cases h
set_option maxRecDepth 1000000 in
theorem small03_true : PSmall.bournelaw03_small.f 200 = some true := by decide +kernel
def bournelaw03_small.f : Option Bool := some true
theorem bournelaw03_small.calls (r : Bool) (w : World) (hGD : DigW w) (h : bournelaw03_small.f = some r) :
    Calls Tryd.prog 25 #[] w fun e w' => e = .returned (.bool r) ∧ Below w.heap.size w w' :=
  PSmall.bournelaw03_small.calls 200 r w hGD (small03_true.trans h)
end Go.Proofs.YtdgejkiackeieaaDoor
