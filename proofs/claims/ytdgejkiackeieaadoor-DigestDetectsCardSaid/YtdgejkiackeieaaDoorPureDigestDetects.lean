/- The plain law of DigestDetects: what the printed functions compute answers true for every input (no condition but the printed bounds). -/
import Derived.Test.YtdgejkiackeieaaDoorPDigestDetects1
import Derived.Test.YtdgejkiackeieaaDoorBurst
set_option linter.unusedVariables false
set_option linter.unusedSimpArgs false
namespace Go.Proofs.YtdgejkiackeieaaDoor.Pure
open Go.RowKit Go.Proofs.YtdgejkiackeieaaDoor.PDigestDetects Go.Proofs.YtdgejkiackeieaaDoor Go.Proofs.YtdgejkiackeieaaDoorW.PrintWords
theorem DigestDetects : bournelaw03_DigestDetects.Pure := by
  intro a0 a1 a2 h0 h1 h2
  refine ⟨1, ?_⟩
  unfold bournelaw03_DigestDetects.f bournelaw03_small.f
  rw [Option.bind_some]
  by_cases hs : (a0.size : Int) > 2000
  · rw [if_pos hs, bournelaw03_DigestDetects.j0, if_pos rfl]
  rw [if_neg hs]
  by_cases hn : a1 < 0
  · rw [if_pos hn, bournelaw03_DigestDetects.j0, if_pos rfl]
  rw [if_neg hn, bournelaw03_DigestDetects.j0, wrap64_id (by omega) (by omega)]
  by_cases hb : a1 ≥ 8 * (a0.size : Int)
  · rw [if_pos (by simpa using hb)]
  rw [if_neg (by simpa using hb)]
  have e1 : bournelaw03_flipped.f a0 a1 a2 = some (strOfNums (flipI (ints (nb a0)) a1.toNat a2 16)) := if_pos ⟨by omega, by omega, by omega⟩
  obtain ⟨m, q, em, hlen, hm, hx, hq⟩ := flipI_num (nb a0) (nb_lt a0) a1.toNat a2 16
  have e2 : digest_Crc.f a0 = some (crcN (nb a0) : Int) := if_pos (by omega)
  have ht := nb_ints m hm
  have e3 : digest_Crc.f (strOfNums (ints m)) = some (crcN m : Int) := by
    unfold digest_Crc.f
    rw [if_pos (by rw [size_nums, ints_length, hlen, nb_length]; omega), ht]
  rw [e1, Option.bind_some, if_pos rfl, e2, Option.bind_some, em, e3, Option.bind_some]
  by_cases he : nb a0 = m
  · have hta : strOfNums (ints m) = a0 := (nb_inj (he.trans ht.symm)).symm
    rw [hta, ← he]
    simp
  · have h3 : ¬ crcN (nb a0) = crcN m := fun h => he (crc_tells (nb a0) (nb_lt a0) a1.toNat (by rw [nb_length]; omega) a2 m q hlen hm hx hq h)
    have h4 : ¬ a0.toList = (strOfNums (ints m)).toList := by
      intro h
      rw [toList_data, toList_data] at h
      exact he (by rw [← ht, ba_ext h])
    have h5 : (a0.toList == (strOfNums (ints m)).toList) = false := beq_eq_false_iff_ne.2 h4
    have h6 : ((crcN (nb a0) : Int) == (crcN m : Int)) = false := beq_eq_false_iff_ne.2 (by omega)
    rw [h5, h6]
    rfl
end Go.Proofs.YtdgejkiackeieaaDoor.Pure
