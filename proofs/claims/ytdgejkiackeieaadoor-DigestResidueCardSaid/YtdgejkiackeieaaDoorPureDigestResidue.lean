/- The plain law of DigestResidue: what the printed functions compute answers true for every input (no condition but the printed bounds). -/
import Derived.Test.YtdgejkiackeieaaDoorPDigestResidue1
import Derived.Test.YtdgejkiackeieaaDoorPl
set_option linter.unusedVariables false
namespace Go.Proofs.YtdgejkiackeieaaDoor.Pure
open Go.RowKit Go.Proofs.YtdgejkiackeieaaDoor.PDigestResidue Go.Proofs.YtdgejkiackeieaaDoor Go.Proofs.YtdgejkiackeieaaDoorW.PrintWords
theorem residue (l : List Nat) (h : ∀ c ∈ l, c < 256) : crcN (l ++ [crcN l % 256, crcN l / 256]) = 3911 := by
  have hn := crcN_lt l h
  have e : Crc.reg 65535 (l ++ [crcN l % 256, crcN l / 256]) = Crc.steps 16 65535 := by
    rw [Crc.reg_append, Crc.reg_num _ _ (by intro c hc; simp at hc; omega)]
    have : Crc.num [crcN l % 256, crcN l / 256] = crcN l := by simp only [Crc.num]; omega
    rw [this]
    show Crc.steps 16 _ = _
    have e2 : Crc.reg 65535 l ^^^ crcN l = 65535 := by
      unfold crcN
      rw [Nat.xor_comm 65535, ← Nat.xor_assoc, Nat.xor_self, Nat.zero_xor]
    rw [e2]
  have e3 : crcN (l ++ [crcN l % 256, crcN l / 256]) = 65535 ^^^ Crc.steps 16 65535 := by
    show 65535 ^^^ Crc.reg 65535 (l ++ [crcN l % 256, crcN l / 256]) = _
    rw [e]
  rw [e3]
  decide +kernel
theorem DigestResidue : bournelaw03_DigestResidue.Pure := by
  intro a0 h0
  unfold bournelaw03_DigestResidue.f bournelaw03_small.f
  rw [Option.bind_some]
  by_cases hs : (a0.size : Int) > 2000
  · rw [if_pos hs]
  rw [if_neg hs]
  have hn := crcN_lt (nb a0) (nb_lt a0)
  have ef : digest_Crc.f a0 = some (crcN (nb a0) : Int) := if_pos (by omega)
  rw [ef, Option.bind_some, if_neg (by omega), if_neg (by omega), if_pos rfl, Option.bind_some]
  have e1 : Int.tmod (crcN (nb a0) : Int) 256 % 256 = ((crcN (nb a0) % 256 : Nat) : Int) := by
    rw [Int.tmod_eq_emod_of_nonneg (by omega)]; omega
  have e2 : wrap64 (Int.tdiv (crcN (nb a0) : Int) 256) % 256 = ((crcN (nb a0) / 256 : Nat) : Int) := by
    rw [Int.tdiv_eq_ediv_of_nonneg (by omega), wrap64_id (by omega) (by omega)]; omega
  rw [e1, e2]
  have sz := size_nums [((crcN (nb a0) % 256 : Nat) : Int), ((crcN (nb a0) / 256 : Nat) : Int)]
  have hnb : nb (a0 ++ strOfNums [((crcN (nb a0) % 256 : Nat) : Int), ((crcN (nb a0) / 256 : Nat) : Int)]) = nb a0 ++ [crcN (nb a0) % 256, crcN (nb a0) / 256] := by
    rw [nb_append, nb_nums _ (by intro z hz; simp at hz; omega)]
    simp only [List.map_cons, List.map_nil, Int.toNat_natCast]
  rw [if_pos (by rw [sz]; simp; omega)]
  have ef2 : digest_Crc.f (a0 ++ strOfNums [((crcN (nb a0) % 256 : Nat) : Int), ((crcN (nb a0) / 256 : Nat) : Int)]) = some (3911 : Int) := by
    unfold digest_Crc.f
    rw [if_pos (by rw [size_append, sz]; simp; omega), hnb, residue _ (nb_lt a0)]
    rfl
  rw [ef2, Option.bind_some]
  rfl
end Go.Proofs.YtdgejkiackeieaaDoor.Pure
