/- The plain law of DigestHexes: what the printed functions compute answers true for every input (no condition but the printed bounds). -/
import Derived.Test.YtdgejkiackeieaaDoorPHexes1
set_option linter.unusedVariables false
set_option linter.unusedSimpArgs false
namespace Go.Proofs.YtdgejkiackeieaaDoor.Pure
open Go.RowKit Go.Proofs.YtdgejkiackeieaaDoor.PHexes Go.Proofs.YtdgejkiackeieaaDoor
set_option maxRecDepth 1000000
theorem small_true : bournelaw03_small.f 200 = some true := by decide +kernel
theorem hv_dig (n : Nat) (h : n < 16) : hv (dig n) = n := by
  have : ∀ n : Fin 16, hv (dig n.val) = n.val := by decide +kernel
  exact this ⟨n, h⟩
theorem dig_hv (c : UInt8) (h : ¬ hv c < 0) : dig (hv c).toNat = c := by
  have : ∀ n : Fin 256, ¬ hv (UInt8.ofNat n.val) < 0 → dig (hv (UInt8.ofNat n.val)).toNat = UInt8.ofNat n.val := by decide +kernel
  have := this ⟨c.toNat, c.toNat_lt⟩
  simp only [UInt8.ofNat_toNat] at this
  exact this h
theorem unhex_hex (l : List UInt8) : unhexL (hexL l) = some l := by
  induction l with
  | nil => rfl
  | cons c l ih =>
    have e : hexL (c :: l) = dig (c.toNat / 16) :: dig (c.toNat % 16) :: hexL l := rfl
    have hc := c.toNat_lt
    rw [e, unhexL, hv_dig _ (by omega), hv_dig _ (by omega), if_neg (by omega), ih]
    have e2 : UInt8.ofNat (16 * ((c.toNat / 16 : Nat) : Int) + ((c.toNat % 16 : Nat) : Int)).toNat = c := by
      have : (16 * ((c.toNat / 16 : Nat) : Int) + ((c.toNat % 16 : Nat) : Int)).toNat = c.toNat := by omega
      rw [this, UInt8.ofNat_toNat]
    rw [Option.map_some, e2]
theorem hex_unhex : ∀ (l r : List UInt8), unhexL l = some r → hexL r = l
  | [], r, h => by
    rw [unhexL] at h
    obtain rfl := Option.some.inj h
    rfl
  | [_], r, h => by rw [unhexL] at h; cases h
  | a :: b :: l, r, h => by
    rw [unhexL] at h
    by_cases hc : hv a < 0 ∨ hv b < 0
    · rw [if_pos hc] at h; cases h
    · rw [if_neg hc] at h
      cases hu : unhexL l with
      | none => rw [hu] at h; cases h
      | some r' =>
        rw [hu, Option.map_some] at h
        obtain rfl := Option.some.inj h
        have ha := hv_lt a
        have hb := hv_lt b
        have hna : ¬ hv a < 0 := fun h => hc (Or.inl h)
        have hnb : ¬ hv b < 0 := fun h => hc (Or.inr h)
        have e : hexL (UInt8.ofNat (16 * hv a + hv b).toNat :: r') = dig ((UInt8.ofNat (16 * hv a + hv b).toNat).toNat / 16) :: dig ((UInt8.ofNat (16 * hv a + hv b).toNat).toNat % 16) :: hexL r' := rfl
        have en : (UInt8.ofNat (16 * hv a + hv b).toNat).toNat = (16 * hv a + hv b).toNat := by
          rw [UInt8.toNat_ofNat', Nat.mod_eq_of_lt (by omega)]
        rw [e, en, show (16 * hv a + hv b).toNat / 16 = (hv a).toNat by omega, show (16 * hv a + hv b).toNat % 16 = (hv b).toNat by omega,
          dig_hv a hna, dig_hv b hnb, hex_unhex l r' hu]
theorem DigestHexes : bournelaw03_DigestHexes.Pure := by
  intro a0 a1 _ _
  refine ⟨200, ?_⟩
  unfold bournelaw03_DigestHexes.f
  rw [small_true, Option.bind_some]
  by_cases h0 : (a0.size : Int) > 2000
  · rw [if_pos h0, bournelaw03_DigestHexes.j0, if_pos rfl]
  rw [if_neg h0]
  by_cases h1 : (a1.size : Int) > 2000
  · rw [bournelaw03_DigestHexes.j0, if_pos (by simpa using h1)]
  rw [bournelaw03_DigestHexes.j0, if_neg (by simpa using h1)]
  have s0 : a0.size ≤ 2000 := by omega
  have s1 : a1.size ≤ 2000 := by omega
  have l0 : (hexL a0.data.toList).length = 2 * a0.size := by rw [hexL_length]; rfl
  have e0 : digest_Hex.f a0 = some ⟨(hexL a0.data.toList).toArray⟩ := if_pos (by omega)
  have z0 : ByteArray.size ⟨(hexL a0.data.toList).toArray⟩ = 2 * a0.size := by
    rw [← l0]; simp [ByteArray.size]
  have e1 : digest_Unhex.f ⟨(hexL a0.data.toList).toArray⟩ = some (a0, true) := by
    unfold digest_Unhex.f
    rw [if_pos (by omega)]
    simp only [unhexR, unhex_hex]
  have e2 : digest_Unhex.f a1 = some (unhexR a1.data.toList) := if_pos (by omega)
  rw [e0, Option.bind_some, e1, Option.bind_some, e2, Option.bind_some, if_pos rfl, z0]
  have ew : wrap64 (2 * (a0.size : Int)) = 2 * (a0.size : Int) := by rw [wrap64]; omega
  rw [ew, if_pos (by omega), if_pos rfl, if_pos rfl]
  cases hu : unhexL a1.data.toList with
  | none =>
    have : unhexR a1.data.toList = (⟨#[]⟩, false) := by simp only [unhexR, hu]
    have e5 : ((⟨#[]⟩ : ByteArray).toList == ([] : List UInt8)) = true := by decide +kernel
    rw [this, if_neg (by simp), e5]
  | some r =>
    have er : unhexR a1.data.toList = (⟨r.toArray⟩, true) := by simp only [unhexR, hu]
    have hr := hex_unhex _ _ hu
    have lr : 2 * r.length = a1.size := by rw [unhexL_length _ _ hu]; rfl
    have zr : ByteArray.size ⟨r.toArray⟩ = r.length := by simp [ByteArray.size]
    have e3 : digest_Hex.f ⟨r.toArray⟩ = some a1 := by
      unfold digest_Hex.f
      rw [if_pos (by omega)]
      have : (ByteArray.mk r.toArray).data.toList = r := by simp
      rw [this, hr]
    rw [er, if_pos rfl, e3, Option.bind_some, if_pos rfl]

end Go.Proofs.YtdgejkiackeieaaDoor.Pure
