/- The Crc of package digest in plain numbers: its register's theory (bursts, exclusive or), and that the printed function computes it. -/
import Derived.Test.YtdgejkiackeieaaDoorPSmall1
import Derived.Laws.BitsAllLaws
set_option linter.unusedVariables false
set_option linter.unusedSimpArgs false
namespace Go.Proofs.YtdgejkiackeieaaDoor
namespace Crc
/-- One step of the register, on naturals of any size. -/
def step (x : Nat) : Nat := if x % 2 = 1 then (x / 2) ^^^ 33800 else x / 2
def steps : Nat → Nat → Nat
  | 0, x => x
  | n + 1, x => steps n (step x)
theorem xor_mod_two (a b : Nat) : (a ^^^ b) % 2 = (a + b) % 2 := by
  have h := Nat.testBit_xor (x := a) (y := b) (i := 0)
  simp only [Nat.testBit_zero] at h
  have ha := Nat.mod_two_eq_zero_or_one a
  have hb := Nat.mod_two_eq_zero_or_one b
  have hc := Nat.mod_two_eq_zero_or_one (a ^^^ b)
  rcases ha with ha | ha <;> rcases hb with hb | hb <;> rcases hc with hc | hc <;> simp [ha, hb, hc] at h <;> omega
theorem step_xor (a b : Nat) : step (a ^^^ b) = step a ^^^ step b := by
  unfold step
  rw [xor_mod_two, Nat.xor_div_two]
  rcases Nat.mod_two_eq_zero_or_one a with ha | ha <;> rcases Nat.mod_two_eq_zero_or_one b with hb | hb
  · rw [if_neg (by omega), if_neg (by omega), if_neg (by omega)]
  · rw [if_pos (by omega), if_neg (by omega), if_pos (by omega)]; ac_rfl
  · rw [if_pos (by omega), if_pos (by omega), if_neg (by omega)]; ac_rfl
  · rw [if_neg (by omega), if_pos (by omega), if_pos (by omega)]
    have : a / 2 ^^^ 33800 ^^^ (b / 2 ^^^ 33800) = a / 2 ^^^ b / 2 ^^^ (33800 ^^^ 33800) := by ac_rfl
    rw [this, Nat.xor_self, Nat.xor_zero]
theorem step_zero : step 0 = 0 := rfl
theorem steps_zero (n : Nat) : steps n 0 = 0 := by induction n with | zero => rfl | succ n ih => exact ih
theorem steps_xor (n a b : Nat) : steps n (a ^^^ b) = steps n a ^^^ steps n b := by
  induction n generalizing a b with
  | zero => rfl
  | succ n ih => simp only [steps]; rw [step_xor, ih]
theorem steps_add (m n x : Nat) : steps (m + n) x = steps n (steps m x) := by
  induction m generalizing x with
  | zero => simp [steps]
  | succ m ih => rw [Nat.succ_add]; exact ih (step x)
theorem step_lt {x : Nat} (h : x < 65536) : step x < 65536 := by
  unfold step
  split
  · exact Nat.xor_lt_two_pow (n := 16) (by omega) (by decide)
  · omega
theorem steps_lt (n : Nat) {x : Nat} (h : x < 65536) : steps n x < 65536 := by
  induction n generalizing x with
  | zero => exact h
  | succ n ih => exact ih (step_lt h)
theorem step_eq_zero {x : Nat} (h : x < 65536) (h0 : step x = 0) : x = 0 := by
  unfold step at h0
  split at h0
  · have h1 : x / 2 = 33800 := by
      have := congrArg (· ^^^ 33800) h0
      simpa [Nat.xor_assoc] using this
    omega
  · omega
theorem steps_eq_zero (n : Nat) {x : Nat} (h : x < 65536) (h0 : steps n x = 0) : x = 0 := by
  induction n generalizing x with
  | zero => exact h0
  | succ n ih => exact step_eq_zero h (ih (step_lt h) h0)
theorem steps_inj (n : Nat) {x y : Nat} (hx : x < 65536) (hy : y < 65536) (h : steps n x = steps n y) : x = y := by
  have h1 : steps n (x ^^^ y) = 0 := by rw [steps_xor, h, Nat.xor_self]
  have h2 := steps_eq_zero n (Nat.xor_lt_two_pow (n := 16) hx hy) h1
  have := congrArg (· ^^^ y) h2
  simpa [Nat.xor_assoc] using this
theorem step_double (x : Nat) : step (2 * x) = x := by unfold step; rw [if_neg (by omega)]; omega
theorem steps_shift (n x : Nat) : steps n (2 ^ n * x) = x := by
  induction n with
  | zero => simp [steps]
  | succ n ih => simp only [steps]; rw [Nat.pow_succ, Nat.mul_comm (2 ^ n) 2, Nat.mul_assoc, step_double, ih]
/-- The register behind a list of bytes. -/
def reg (x : Nat) (l : List Nat) : Nat := l.foldl (fun x c => steps 8 (x ^^^ c)) x
/-- The number whose digits (the least one first) are the bytes. -/
def num : List Nat → Nat
  | [] => 0
  | c :: l => c + 256 * num l
theorem reg_append (x : Nat) (l m : List Nat) : reg x (l ++ m) = reg (reg x l) m := by unfold reg; rw [List.foldl_append]
theorem reg_lt {x : Nat} (l : List Nat) (hx : x < 65536) (hl : ∀ c ∈ l, c < 256) : reg x l < 65536 := by
  induction l generalizing x with
  | nil => exact hx
  | cons c l ih =>
    refine ih (steps_lt 8 (Nat.xor_lt_two_pow (n := 16) hx ?_)) (fun d hd => hl d (List.mem_cons_of_mem _ hd))
    have := hl c (List.mem_cons_self ..); omega
theorem add_eq_xor {c m : Nat} (h : c < 256) : c + 256 * m = c ^^^ (256 * m) := by
  have h1 := Nat.two_pow_add_eq_or_of_lt (i := 8) h m
  have e : 2 ^ 8 * m = 256 * m := rfl
  rw [e] at h1
  rw [Nat.add_comm, h1]
  apply Nat.eq_of_testBit_eq
  intro i
  simp only [Nat.testBit_or, Nat.testBit_xor]
  by_cases hi : i < 8
  · have : (256 * m).testBit i = false := by rw [← e, Nat.testBit_two_pow_mul]; simp; omega
    simp [this]
  · have : c.testBit i = false := Nat.testBit_lt_two_pow (Nat.lt_of_lt_of_le h (Nat.pow_le_pow_right (n := 2) (i := 8) (by decide) (by omega)))
    simp [this]
theorem reg_num (x : Nat) (l : List Nat) (hl : ∀ c ∈ l, c < 256) : reg x l = steps (8 * l.length) (x ^^^ num l) := by
  induction l generalizing x with
  | nil => simp [reg, num, steps]
  | cons c l ih =>
    have hc := hl c (List.mem_cons_self ..)
    show reg (steps 8 (x ^^^ c)) l = _
    rw [ih _ (fun d hd => hl d (List.mem_cons_of_mem _ hd))]
    rw [num, add_eq_xor hc, List.length_cons, Nat.mul_succ, Nat.add_comm, steps_add, ← Nat.xor_assoc, steps_xor 8 (x ^^^ c), show 256 * num l = 2 ^ 8 * num l from rfl, steps_shift]
theorem xor_self_mid (a b c : Nat) : a ^^^ b ^^^ (a ^^^ c) = b ^^^ c := by
  have : a ^^^ b ^^^ (a ^^^ c) = (a ^^^ a) ^^^ (b ^^^ c) := by ac_rfl
  rw [this, Nat.xor_self, Nat.zero_xor]
/-- The numbers of two lists of one length: their bytewise exclusive or. -/
theorem num_xor (l m : List Nat) (h : l.length = m.length) (hl : ∀ c ∈ l, c < 256) (hm : ∀ c ∈ m, c < 256) : num (List.zipWith (· ^^^ ·) l m) = num l ^^^ num m := by
  induction l generalizing m with
  | nil => cases m with | nil => rfl | cons => simp at h
  | cons c l ih =>
    cases m with
    | nil => simp at h
    | cons d m =>
      have hc := hl c (List.mem_cons_self ..); have hd := hm d (List.mem_cons_self ..)
      simp only [List.zipWith_cons_cons, num]
      rw [ih m (by simpa using h) (fun d hd => hl d (List.mem_cons_of_mem _ hd)) (fun d hd => hm d (List.mem_cons_of_mem _ hd)), add_eq_xor (Nat.xor_lt_two_pow (n := 8) hc hd), add_eq_xor hc, add_eq_xor hd]
      have : 256 * (num l ^^^ num m) = 256 * num l ^^^ 256 * num m := by
        have := Nat.shiftLeft_xor_distrib (a := num l) (b := num m) (i := 8)
        simpa [Nat.shiftLeft_eq, Nat.mul_comm] using this
      rw [this]; ac_rfl
theorem num_inj (l m : List Nat) (h : l.length = m.length) (hl : ∀ c ∈ l, c < 256) (hm : ∀ c ∈ m, c < 256) (e : num l = num m) : l = m := by
  induction l generalizing m with
  | nil => cases m with | nil => rfl | cons => simp at h
  | cons c l ih =>
    cases m with
    | nil => simp at h
    | cons d m =>
      have hc := hl c (List.mem_cons_self ..); have hd := hm d (List.mem_cons_self ..)
      simp only [num] at e
      have e1 : c = d := by omega
      have e2 : num l = num m := by omega
      rw [e1, ih m (by simpa using h) (fun d hd => hl d (List.mem_cons_of_mem _ hd)) (fun d hd => hm d (List.mem_cons_of_mem _ hd)) e2]
/-- Lists of one length that differ within 16 consecutive bits: equal registers, equal lists. -/
theorem burst (x : Nat) (l m : List Nat) (h : l.length = m.length) (hl : ∀ c ∈ l, c < 256) (hm : ∀ c ∈ m, c < 256) (b p : Nat) (hb : b ≤ 8 * l.length) (hp : p < 65536)
    (hd : num l ^^^ num m = 2 ^ b * p) (e : reg x l = reg x m) : l = m := by
  rw [reg_num x l hl, reg_num x m hm, ← h] at e
  have e1 : steps (8 * l.length) (2 ^ b * p) = 0 := by rw [← hd, ← xor_self_mid x, steps_xor, e, Nat.xor_self]
  obtain ⟨k, hk⟩ : ∃ k, 8 * l.length = b + k := ⟨_, (Nat.add_sub_of_le hb).symm⟩
  rw [hk, steps_add, steps_shift] at e1
  have hp0 := steps_eq_zero k hp e1
  subst hp0
  apply num_inj l m h hl hm
  have := congrArg (· ^^^ num m) hd
  simpa [Nat.xor_assoc] using this
end Crc

/-- The bytes of a string as numbers. -/
def nb (s : ByteArray) : List Nat := s.data.toList.map UInt8.toNat
theorem nb_length (s : ByteArray) : (nb s).length = s.size := by unfold nb; rw [List.length_map, Array.length_toList]; rfl
theorem nb_lt (s : ByteArray) : ∀ c ∈ nb s, c < 256 := by
  intro c hc
  simp only [nb, List.mem_map] at hc
  obtain ⟨b, _, rfl⟩ := hc
  exact b.toNat_lt
theorem nb_get (s : ByteArray) (i : Nat) (h : i < s.size) : Go.Proofs.YtdgejkiackeieaaDoorW.PrintWords.bt s i = (((nb s)[i]'(by rw [nb_length]; exact h) : Nat) : Int) := by
  unfold Go.Proofs.YtdgejkiackeieaaDoorW.PrintWords.bt
  rw [dif_pos (show ((i : Int)).toNat < s.size by omega)]
  simp only [nb, Int.toNat_natCast, List.getElem_map, Array.getElem_toList]
  rfl
/-- The checksum of a list of bytes. -/
def crcN (l : List Nat) : Nat := 65535 ^^^ Crc.reg 65535 l
theorem crcN_lt (l : List Nat) (h : ∀ c ∈ l, c < 256) : crcN l < 65536 := Nat.xor_lt_two_pow (n := 16) (by decide) (Crc.reg_lt l (by decide) h)
namespace CrcPrint
open Go.RowKit Go.Proofs.YtdgejkiackeieaaDoorW.PrintWords Go.Proofs.YtdgejkiackeieaaDoor.PSmall
theorem and_one (x : Nat) (h : x < 65536) : Go.bits .and .u16 (x : Int) 1 = ((x % 2 : Nat) : Int) := by
  have := u16_and_nat x 1 h (by decide)
  rw [nat_mask1] at this
  exact this
theorem wrap_u16_byte (c : Nat) (h : c < 256) : IntKind.u16.wrap (c : Int) = (c : Int) := by rw [IntKind.wrap_u16]; omega
theorem l1_eq (s : ByteArray) (i7 i8 : Int) (d : Nat) : ∀ (k x j : Nat), x < 65536 → j + d = 8 → PSmall.digest_Crc.l1 (k + d + 1) s x i7 i8 j = PSmall.digest_Crc.l0 k s (Crc.steps d x : Nat) i7 (wrap64 (i8 + 1)) := by
  induction d with
  | zero =>
    intro k x j hx hj
    rw [PSmall.digest_Crc.l1, if_neg (by omega)]
    rfl
  | succ d ih =>
    intro k x j hx hj
    rw [show k + (d + 1) + 1 = (k + d + 1) + 1 by omega, PSmall.digest_Crc.l1, if_pos (by omega), and_one x hx]
    have ew : wrap64 ((j : Int) + 1) = ((j + 1 : Nat) : Int) := by unfold wrap64; omega
    have hs : Crc.steps (d + 1) x = Crc.steps d (Crc.step x) := rfl
    have h2 : ((x : Int) / 2) = ((x / 2 : Nat) : Int) := by omega
    rw [hs, ew, h2]
    by_cases ho : x % 2 = 1
    · have e : Go.bits .xor .u16 ((x / 2 : Nat) : Int) 33800 = ((Crc.step x : Nat) : Int) := by
        have := u16_xor_nat (x / 2) 33800 (by omega) (by decide)
        rw [show ((33800 : Nat) : Int) = 33800 from rfl] at this
        rw [this, Crc.step, if_pos ho]
      rw [if_pos (by omega), e]
      exact ih k _ (j + 1) (Crc.step_lt hx) (by omega)
    · have e : x / 2 = Crc.step x := by rw [Crc.step, if_neg ho]
      rw [if_neg (by omega), e]
      exact ih k _ (j + 1) (Crc.step_lt hx) (by omega)
theorem l0_eq (s : ByteArray) (hs : s.size ≤ 1000000) (d : Nat) : ∀ (x i : Nat), x < 65536 → i + d = s.size → ∃ k, PSmall.digest_Crc.l0 k s x (s.size : Int) i = some ((65535 ^^^ Crc.reg x ((nb s).drop i) : Nat) : Int) := by
  induction d with
  | zero =>
    intro x i hx hi
    refine ⟨1, ?_⟩
    have e : (nb s).drop i = [] := by rw [List.drop_eq_nil_iff, nb_length]; omega
    have := u16_xor_nat 65535 x (by decide) hx
    have hl : (65535 ^^^ x) < 65536 := Nat.xor_lt_two_pow (n := 16) (by decide) hx
    rw [PSmall.digest_Crc.l0, if_neg (by omega), e, show IntKind.u16.max = ((65535 : Nat) : Int) from rfl, this]
    congr 1
    show wrap64 ((65535 ^^^ x : Nat) : Int) = ((65535 ^^^ x : Nat) : Int)
    unfold wrap64
    omega
  | succ d ih =>
    intro x i hx hi
    have hlt : i < s.size := by omega
    have hg : (nb s)[i]'(by rw [nb_length]; exact hlt) < 256 := nb_lt s _ (List.getElem_mem _)
    obtain ⟨k, hk⟩ := ih (Crc.steps 8 (x ^^^ (nb s)[i]'(by rw [nb_length]; exact hlt))) (i + 1) (Crc.steps_lt 8 (Nat.xor_lt_two_pow (n := 16) hx (by omega))) (by omega)
    refine ⟨(k + 8 + 1) + 1, ?_⟩
    rw [PSmall.digest_Crc.l0, if_pos (by omega), if_pos (by omega), if_pos (by omega), nb_get s i hlt, wrap_u16_byte _ hg, u16_xor_nat x _ hx (by omega)]
    have := l1_eq s (s.size : Int) (i : Int) 8 k (x ^^^ (nb s)[i]'(by rw [nb_length]; exact hlt)) 0 (Nat.xor_lt_two_pow (n := 16) hx (by omega)) rfl
    rw [show ((0 : Nat) : Int) = 0 from rfl] at this
    rw [this, show wrap64 ((i : Int) + 1) = ((i + 1 : Nat) : Int) by unfold wrap64; omega, hk]
    have ed : (nb s).drop i = (nb s)[i]'(by rw [nb_length]; exact hlt) :: (nb s).drop (i + 1) := List.drop_eq_getElem_cons (by rw [nb_length]; exact hlt)
    rw [ed]
    rfl
theorem f_eq (s : ByteArray) (hs : s.size ≤ 1000000) : ∃ k, PSmall.digest_Crc.f k s = some (crcN (nb s) : Int) := by
  obtain ⟨k, hk⟩ := l0_eq s hs s.size 65535 0 (by decide) (by omega)
  exact ⟨k, hk⟩
end CrcPrint
end Go.Proofs.YtdgejkiackeieaaDoor
