/- The plain law of DigestShorts: what the printed functions compute answers true for every input (no condition but the printed bounds). -/
import Derived.Test.YtdgejkiackeieaaDoorPDigestShorts1
import Derived.Test.YtdgejkiackeieaaDoorBurst
set_option linter.unusedVariables false
set_option linter.unusedSimpArgs false
namespace Go.Proofs.YtdgejkiackeieaaDoor.Pure
open Go.RowKit Go.Proofs.YtdgejkiackeieaaDoor.PDigestShorts Go.Proofs.YtdgejkiackeieaaDoor Go.Proofs.YtdgejkiackeieaaDoorW.PrintWords
theorem td (x : Int) (h0 : 0 ≤ x) (h1 : x < 9223372036854775808) : wrap64 (Int.tdiv x 256) = x / 256 := by rw [Int.tdiv_eq_ediv_of_nonneg h0]; unfold wrap64; omega
theorem td16 (x : Int) (h0 : 0 ≤ x) (h1 : x < 9223372036854775808) : wrap64 (Int.tdiv x 16) = x / 16 := by rw [Int.tdiv_eq_ediv_of_nonneg h0]; unfold wrap64; omega
theorem shorts_loop (S : ByteArray) (hS : S.size = 32) (n : Nat) : n ≤ 7 → bigN (S.data.toList.take n) < 2 ^ 60 → bournelaw03_DigestShorts.l0 (n + 1) true S (bigN (S.data.toList.take n) : Int) ((n : Int) - 1) = some true := by
  have hl : S.data.toList.length = 32 := by rw [size_len, hS]
  induction n with
  | zero => intro _ _; rw [bournelaw03_DigestShorts.l0, if_neg (by omega), if_pos rfl]; simp [bigN]
  | succ n ih =>
    intro hn hlt
    have hT : bigN (S.data.toList.take (n + 1)) = bigN (S.data.toList.take n) * 256 + (S.data.toList[n]'(by omega)).toNat := by
      rw [List.take_succ_eq_append_getElem (by omega), bigN_snoc]
    have hc := (S.data.toList[n]'(by omega)).toNat_lt
    have hb : bt S (n : Int) = ((S.data.toList[n]'(by omega)).toNat : Int) := by
      rw [nb_get S n (by omega)]; simp [nb]
    rw [bournelaw03_DigestShorts.l0, show (((n + 1 : Nat) : Int) - 1) = (n : Int) by omega, if_pos (by omega), if_pos (by omega), if_pos (by omega), if_neg (by omega), hb, hT, wrap64_id (x := ((S.data.toList[n]'(by omega)).toNat : Int)) (by omega) (by omega),
      Int.tmod_eq_emod_of_nonneg (by omega), if_pos (by omega), td _ (by omega) (by omega), wrap64_id (x := (n : Int) - 1) (by omega) (by omega)]
    have e : ((bigN (S.data.toList.take n) * 256 + (S.data.toList[n]'(by omega)).toNat : Nat) : Int) / 256 = (bigN (S.data.toList.take n) : Int) := by omega
    rw [e]
    exact ih (by omega) (by omega)
theorem DigestShorts : bournelaw03_DigestShorts.Pure := by
  intro a0 h0
  refine ⟨9, ?_⟩
  unfold bournelaw03_DigestShorts.f bournelaw03_small.f
  rw [Option.bind_some]
  by_cases hs : (a0.size : Int) > 2000
  · rw [if_pos hs]
  rw [if_neg hs]
  have e1 : digest_Sum.f a0 = some ⟨(sumBytes a0).toArray⟩ := if_pos (by omega)
  have e2 : digest_Short.f a0 = some (shortN a0 : Int) := if_pos (by omega)
  have hS : ByteArray.size ⟨(sumBytes a0).toArray⟩ = 32 := by show (sumBytes a0).toArray.size = 32; rw [List.size_toArray, sumBytes_length]
  obtain ⟨S, hSd⟩ : ∃ S : ByteArray, (⟨(sumBytes a0).toArray⟩ : ByteArray) = S := ⟨_, rfl⟩
  have hd : S.data.toList = sumBytes a0 := by rw [← hSd]
  rw [e1, Option.bind_some, hSd] 
  rw [hSd] at hS
  rw [if_pos (by omega), e2, Option.bind_some]
  have hl : S.data.toList.length = 32 := by rw [size_len, hS]
  have hT : bigN (S.data.toList.take 8) = bigN (S.data.toList.take 7) * 256 + (S.data.toList[7]'(by omega)).toNat := by
    rw [List.take_succ_eq_append_getElem (by omega), bigN_snoc]
  have hc := (S.data.toList[7]'(by omega)).toNat_lt
  have h7 := bigN_lt (S.data.toList.take 7)
  rw [List.length_take, show min 7 S.data.toList.length = 7 by omega] at h7
  have hb : bt S 7 = ((S.data.toList[7]'(by omega)).toNat : Int) := by
    have := nb_get S 7 (by omega)
    rw [show ((7 : Nat) : Int) = 7 from rfl] at this
    rw [this]; simp [nb]
  have hsh : shortN a0 = bigN (S.data.toList.take 7) * 16 + (S.data.toList[7]'(by omega)).toNat / 16 := by
    unfold shortN; rw [← hd, hT]; omega
  rw [hsh, bournelaw03_DigestShorts.l0, if_pos (by omega), if_pos (by omega), if_pos (by omega), if_pos rfl, hb, wrap64_id (x := ((S.data.toList[7]'(by omega)).toNat : Int)) (by omega) (by omega),
    Int.tmod_eq_emod_of_nonneg (by omega), td16 _ (by omega) (by omega), if_pos (by omega), td16 _ (by omega) (by omega)]
  have e : ((bigN (S.data.toList.take 7) * 16 + (S.data.toList[7]'(by omega)).toNat / 16 : Nat) : Int) / 16 = (bigN (S.data.toList.take 7) : Int) := by omega
  rw [e]
  rw [show wrap64 (7 - 1) = ((7 : Nat) : Int) - 1 by decide +kernel]
  exact shorts_loop S hS 7 (by omega) (by omega)
end Go.Proofs.YtdgejkiackeieaaDoor.Pure
