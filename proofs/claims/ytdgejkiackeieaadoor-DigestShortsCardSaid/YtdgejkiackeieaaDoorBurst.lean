/- Bits of a string, turned within 16 in a row: what the turned bytes' number is, and that the checksum tells. Plain numbers. -/
import Derived.Test.YtdgejkiackeieaaDoorFlipT
set_option linter.unusedVariables false
set_option linter.unusedSimpArgs false
namespace Go.Proofs.YtdgejkiackeieaaDoor
theorem pow_mul_xor (n a b : Nat) : 2 ^ n * (a ^^^ b) = 2 ^ n * a ^^^ 2 ^ n * b := by
  have := Nat.shiftLeft_xor_distrib (a := a) (b := b) (i := n)
  simpa [Nat.shiftLeft_eq, Nat.mul_comm] using this
theorem num_set (m : List Nat) (hm : ∀ c ∈ m, c < 256) : ∀ (j x : Nat) (hj : j < m.length), x < 256 → Crc.num (m.set j (m[j] ^^^ x)) = Crc.num m ^^^ (2 ^ (8 * j) * x) := by
  induction m with
  | nil => intro j x hj; simp at hj
  | cons c m ih =>
    intro j x hj hx
    have hc := hm c (List.mem_cons_self ..)
    cases j with
    | zero =>
      simp only [List.set_cons_zero, List.getElem_cons_zero, Crc.num]
      rw [Crc.add_eq_xor (Nat.xor_lt_two_pow (n := 8) hc hx), Crc.add_eq_xor hc, Nat.mul_zero, Nat.pow_zero, Nat.one_mul]
      ac_rfl
    | succ j =>
      simp only [List.set_cons_succ, List.getElem_cons_succ, Crc.num]
      rw [ih (fun d hd => hm d (List.mem_cons_of_mem _ hd)) j x (by simpa using hj) hx, Crc.add_eq_xor hc, Crc.add_eq_xor hc]
      have e1 := pow_mul_xor 8 (Crc.num m) (2 ^ (8 * j) * x)
      rw [show (256 : Nat) = 2 ^ 8 from rfl, e1, ← Nat.mul_assoc, ← Nat.pow_add, show 8 + 8 * j = 8 * (j + 1) by omega]
      ac_rfl
theorem el_ints (m : List Nat) (j : Nat) (hj : j < m.length) : el (ints m) j = (m[j] : Int) := by
  have h : j < (ints m).length := by rw [ints_length]; exact hj
  have e : (ints m)[j] = (m[j] : Int) := List.getElem_map ..
  unfold el
  rw [List.getD_eq_getElem?_getD, List.getElem?_eq_getElem h, e]
  rfl
theorem set_ints (m : List Nat) (j x : Nat) : (ints m).set j (x : Int) = ints (m.set j x) := by
  unfold ints; rw [List.map_set]
theorem flip1_ints (m : List Nat) (hm : ∀ c ∈ m, c < 256) (A : Nat) (hA : A < 8 * m.length) : flip1 (ints m) A = ints (m.set (A / 8) (m[A / 8]'(by omega) ^^^ 2 ^ (A % 8))) := by
  have hb : m[A / 8]'(by omega) < 256 := hm _ (List.getElem_mem _)
  have hp : 2 ^ (A % 8) < 256 := by
    rw [show (256 : Nat) = 2 ^ 8 from rfl]
    exact Nat.pow_lt_pow_right (by decide) (by omega)
  unfold flip1
  have e : IntKind.u8.wrap (2 ^ (A % 8)) = ((2 ^ (A % 8) : Nat) : Int) := by
    have e1 : ((2 : Int) ^ (A % 8)) = ((2 ^ (A % 8) : Nat) : Int) := (Int.natCast_pow 2 (A % 8)).symm
    rw [e1, IntKind.wrap_u8]
    generalize 2 ^ (A % 8) = P at hp
    omega
  rw [el_ints m _ (by omega), e, u8_xor_nat _ _ hb hp, set_ints]
theorem flipI_num (l : List Nat) (hl : ∀ c ∈ l, c < 256) (bit : Nat) (p : Int) (k : Nat) :
    ∃ m q, flipI (ints l) bit p k = ints m ∧ m.length = l.length ∧ (∀ c ∈ m, c < 256) ∧ Crc.num l ^^^ Crc.num m = 2 ^ bit * q ∧ q < 2 ^ k := by
  induction k with
  | zero => exact ⟨l, 0, rfl, rfl, hl, by rw [Nat.xor_self, Nat.mul_zero], Nat.one_pos⟩
  | succ k ih =>
    obtain ⟨m, q, e, hlen, hm, hx, hq⟩ := ih
    rw [flipI, ints_length, e]
    have hq2 : q < 2 ^ (k + 1) := by rw [Nat.pow_succ]; omega
    by_cases h : pbit p k = true ∧ bit + k < 8 * l.length
    · rw [if_pos h]
      obtain ⟨hp, hlt⟩ := h
      have hj : (bit + k) / 8 < m.length := by omega
      have h8 : 2 ^ ((bit + k) % 8) < 256 := by
        rw [show (256 : Nat) = 2 ^ 8 from rfl]
        exact Nat.pow_lt_pow_right (by decide) (by omega)
      refine ⟨m.set ((bit + k) / 8) (m[(bit + k) / 8]'hj ^^^ 2 ^ ((bit + k) % 8)), q ^^^ 2 ^ k, flip1_ints m hm _ (by omega), by rw [List.length_set, hlen], ?_, ?_, ?_⟩
      · intro c hc
        rcases List.mem_or_eq_of_mem_set hc with h | h
        · exact hm c h
        · rw [h]; exact Nat.xor_lt_two_pow (n := 8) (hm _ (List.getElem_mem _)) h8
      · rw [num_set m hm _ _ hj h8, ← Nat.xor_assoc, hx, pow_mul_xor, ← Nat.pow_add, ← Nat.pow_add, show 8 * ((bit + k) / 8) + (bit + k) % 8 = bit + k by omega]
      · exact Nat.xor_lt_two_pow hq2 (Nat.pow_lt_pow_right (by decide) (by omega))
    · rw [if_neg h]
      exact ⟨m, q, rfl, hlen, hm, hx, hq2⟩
theorem crc_tells (l : List Nat) (hl : ∀ c ∈ l, c < 256) (bit : Nat) (hb : bit ≤ 8 * l.length) (p : Int) (m : List Nat) (q : Nat) (hlen : m.length = l.length) (hm : ∀ c ∈ m, c < 256)
    (hx : Crc.num l ^^^ Crc.num m = 2 ^ bit * q) (hq : q < 2 ^ 16) (he : crcN l = crcN m) : l = m := by
  refine Crc.burst 65535 l m hlen.symm hl hm bit q hb hq hx ?_
  have := congrArg (65535 ^^^ ·) he
  simpa [crcN, ← Nat.xor_assoc] using this
end Go.Proofs.YtdgejkiackeieaaDoor
