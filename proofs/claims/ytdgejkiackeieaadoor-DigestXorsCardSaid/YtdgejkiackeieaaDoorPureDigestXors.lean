/- The plain law of DigestXors: what the printed functions compute answers true for every input (no condition but the printed bounds). -/
import Derived.Test.YtdgejkiackeieaaDoorPDigestXors1
import Derived.Test.YtdgejkiackeieaaDoorBytM
set_option linter.unusedVariables false
set_option linter.unusedSimpArgs false
namespace Go.Proofs.YtdgejkiackeieaaDoor.Pure
open Go.RowKit Go.Proofs.YtdgejkiackeieaaDoor.PDigestXors Go.Proofs.YtdgejkiackeieaaDoor Go.Proofs.YtdgejkiackeieaaDoorW.PrintWords Go.Proofs.YtdgejkiackeieaaDoorW.PrintMore
theorem i64_xor_nat (a b : Nat) (ha : a < 65536) (hb : b < 65536) : Go.bits .xor .i64 (a : Int) (b : Int) = ((a ^^^ b : Nat) : Int) := by
  have hx : a ^^^ b < 65536 := Nat.xor_lt_two_pow (n := 16) ha hb
  have e1 : (BitVec.ofInt 64 (a : Int)).toNat = a := ofInt_u64 a (by omega)
  have e2 : (BitVec.ofInt 64 (b : Int)).toNat = b := ofInt_u64 b (by omega)
  show IntKind.i64.wrap (((BitVec.ofInt 64 (a : Int) ^^^ BitVec.ofInt 64 (b : Int)).toNat : Nat) : Int) = _
  rw [BitVec.toNat_xor, e1, e2, IntKind.wrap_i64]
  omega
theorem crc_num (l : List Nat) (h : ∀ c ∈ l, c < 256) : crcN l = 65535 ^^^ Crc.steps (8 * l.length) (65535 ^^^ Crc.num l) := by
  rw [← Crc.reg_num 65535 l h]; rfl
theorem zip_lt (A B : List Nat) (hA : ∀ c ∈ A, c < 256) (hB : ∀ c ∈ B, c < 256) : ∀ c ∈ List.zipWith (· ^^^ ·) A B, c < 256 := by
  intro c hc
  obtain ⟨i, hi, rfl⟩ := List.mem_iff_getElem.1 hc
  rw [List.getElem_zipWith]
  exact Nat.xor_lt_two_pow (n := 8) (hA _ (List.getElem_mem _)) (hB _ (List.getElem_mem _))
theorem crc3 (A B C : List Nat) (n : Nat) (lA : A.length = n) (lB : B.length = n) (lC : C.length = n) (hA : ∀ c ∈ A, c < 256) (hB : ∀ c ∈ B, c < 256) (hC : ∀ c ∈ C, c < 256) :
    crcN (List.zipWith (· ^^^ ·) (List.zipWith (· ^^^ ·) A B) C) = crcN A ^^^ crcN B ^^^ crcN C := by
  have lAB : (List.zipWith (· ^^^ ·) A B).length = n := by rw [List.length_zipWith]; omega
  rw [crc_num _ (zip_lt _ _ (zip_lt _ _ hA hB) hC), crc_num A hA, crc_num B hB, crc_num C hC, List.length_zipWith, lAB, lA, lB, lC, Nat.min_self,
    Crc.num_xor _ _ (by omega) (zip_lt _ _ hA hB) hC, Crc.num_xor _ _ (by omega) hA hB]
  have cancel : ∀ x y z : Nat, 65535 ^^^ x ^^^ (65535 ^^^ y) ^^^ (65535 ^^^ z) = 65535 ^^^ (x ^^^ y ^^^ z) := by
    intro x y z
    have : 65535 ^^^ x ^^^ (65535 ^^^ y) ^^^ (65535 ^^^ z) = (65535 ^^^ 65535) ^^^ (65535 ^^^ (x ^^^ y ^^^ z)) := by ac_rfl
    rw [this, Nat.xor_self, Nat.zero_xor]
  rw [cancel, ← Crc.steps_xor, ← Crc.steps_xor, cancel]
theorem mem_take_lt {l : List Nat} (h : ∀ c ∈ l, c < 256) (n : Nat) : ∀ c ∈ l.take n, c < 256 := fun c hc => h c (List.mem_of_mem_take hc)
def x3 (A B C : List Nat) : List Nat := List.zipWith (· ^^^ ·) (List.zipWith (· ^^^ ·) A B) C
theorem x3_take (A B C : List Nat) (n : Nat) : (x3 A B C).take n = x3 (A.take n) (B.take n) (C.take n) := by
  unfold x3
  rw [List.take_zipWith, List.take_zipWith]
theorem loop_eq (a b c : ByteArray) (n : Nat) (ha : n ≤ a.size) (hb : n ≤ b.size) (hc : n ≤ c.size) (hn : n ≤ 2000) (d : Nat) : ∀ i : Nat, i + d = n →
    ∃ k, bournelaw03_DigestXors.l0 k a b c true n (ints ((x3 (nb a) (nb b) (nb c)).take i)) i = some true := by
  have lx : (x3 (nb a) (nb b) (nb c)).length = min (min a.size b.size) c.size := by
    unfold x3; rw [List.length_zipWith, List.length_zipWith, nb_length, nb_length, nb_length]
  have hlt : ∀ c' ∈ x3 (nb a) (nb b) (nb c), c' < 256 := zip_lt _ _ (zip_lt _ _ (nb_lt a) (nb_lt b)) (nb_lt c)
  induction d with
  | zero =>
    intro i hi
    obtain rfl : i = n := by omega
    refine ⟨1, ?_⟩
    have part : ∀ s : ByteArray, i ≤ s.size → digest_Crc.f (s.extract 0 ((i : Nat) : Int).toNat) = some (crcN ((nb s).take i) : Int) := by
      intro s hs
      have e : nb (s.extract 0 ((i : Nat) : Int).toNat) = (nb s).take i := by rw [nb_extract, List.drop_zero]; simp
      have sz : (s.extract 0 ((i : Nat) : Int).toNat).size ≤ 1000000 := by
        rw [← nb_length, e, List.length_take]; omega
      unfold digest_Crc.f
      rw [if_pos sz, e]
    have whole : digest_Crc.f (strOfNums (ints ((x3 (nb a) (nb b) (nb c)).take i))) = some (crcN (x3 ((nb a).take i) ((nb b).take i) ((nb c).take i)) : Int) := by
      unfold digest_Crc.f
      rw [if_pos (by rw [size_nums, ints, List.length_map, List.length_take]; omega), nb_ints _ (mem_take_lt hlt i), x3_take]
    rw [bournelaw03_DigestXors.l0, if_neg (by omega), if_pos rfl, whole, Option.bind_some, if_pos (by omega), if_pos (by omega), part a ha, Option.bind_some, if_pos (by omega), part b hb, Option.bind_some, if_pos (by omega), part c hc, Option.bind_some]
    have tl : ∀ s : ByteArray, i ≤ s.size → ((nb s).take i).length = i := fun s hs => by rw [List.length_take, nb_length]; omega
    have h3 := crc3 _ _ _ i (tl a ha) (tl b hb) (tl c hc) (mem_take_lt (nb_lt a) i) (mem_take_lt (nb_lt b) i) (mem_take_lt (nb_lt c) i)
    have cl : ∀ s : ByteArray, crcN ((nb s).take i) < 65536 := fun s => crcN_lt _ (mem_take_lt (nb_lt s) i)
    rw [i64_xor_nat _ _ (cl a) (cl b), i64_xor_nat _ _ (Nat.xor_lt_two_pow (n := 16) (cl a) (cl b)) (cl c), x3, h3]
    simp
  | succ d ih =>
    intro i hi
    obtain ⟨k, hk⟩ := ih (i + 1) (by omega)
    refine ⟨k + 1, ?_⟩
    have hA : i < (nb a).length := by rw [nb_length]; omega
    have hB : i < (nb b).length := by rw [nb_length]; omega
    have hC : i < (nb c).length := by rw [nb_length]; omega
    have hX : i < (x3 (nb a) (nb b) (nb c)).length := by rw [lx]; omega
    have e1 : ints ((x3 (nb a) (nb b) (nb c)).take (i + 1)) = ints ((x3 (nb a) (nb b) (nb c)).take i) ++ [(((nb a)[i] ^^^ (nb b)[i] ^^^ (nb c)[i] : Nat) : Int)] := by
      rw [List.take_succ_eq_append_getElem hX]
      unfold ints
      rw [List.map_append]
      simp only [x3, List.getElem_zipWith, List.map_cons, List.map_nil]
    have bA := nb_lt a _ (List.getElem_mem hA); have bB := nb_lt b _ (List.getElem_mem hB); have bC := nb_lt c _ (List.getElem_mem hC)
    have bAB : (nb a)[i] ^^^ (nb b)[i] < 256 := Nat.xor_lt_two_pow (n := 8) bA bB
    rw [bournelaw03_DigestXors.l0, if_pos (by omega), if_pos (by omega), if_pos (by omega), if_pos (by omega), if_pos (by omega),
      if_pos (by rw [ints, List.length_map, List.length_take]; omega),
      nb_get a i (by omega), nb_get b i (by omega), nb_get c i (by omega), u8_xor_nat _ _ bA bB, u8_xor_nat _ _ bAB bC, ← e1, wrap64_id (by omega) (by omega)]
    exact hk
theorem DigestXors : bournelaw03_DigestXors.Pure := by
  intro a b c ha hb hc
  have hm : ∃ n : Nat, mn (mn (a.size : Int) (b.size : Int)) (c.size : Int) = (n : Int) ∧ n ≤ a.size ∧ n ≤ b.size ∧ n ≤ c.size := by
    refine ⟨(mn (mn (a.size : Int) (b.size : Int)) (c.size : Int)).toNat, ?_, ?_, ?_, ?_⟩ <;> (unfold mn; (repeat' split) <;> omega)
  obtain ⟨n, e, h1, h2, h3⟩ := hm
  by_cases h : (n : Int) > 2000
  · refine ⟨0, ?_⟩
    unfold bournelaw03_DigestXors.f bournelaw03_small.f
    rw [Option.bind_some, e, if_pos h]
  · obtain ⟨k, hk⟩ := loop_eq a b c n h1 h2 h3 (by omega) n 0 (by omega)
    refine ⟨k, ?_⟩
    unfold bournelaw03_DigestXors.f bournelaw03_small.f
    rw [Option.bind_some, e, if_neg h]
    exact hk
end Go.Proofs.YtdgejkiackeieaaDoor.Pure
