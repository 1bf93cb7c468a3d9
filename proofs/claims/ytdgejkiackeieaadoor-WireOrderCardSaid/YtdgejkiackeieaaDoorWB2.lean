/- Texts of this claim, joined: WireU, WireV, WireY, WireZ, WireL, GramA, OpenX, WireOrd, WireM, WireN, GramB, WLWrites, WLBack, WLReads, WLOnly, WireO, WLOrder. -/
import Derived.Test.YtdgejkiackeieaaDoorWB1
import Derived.BigCall
import Derived.Outline
import Derived.Lib.Hide
import Derived.WalkLawsBesides
import Derived.Test.YtdgejkiackeieaaDoorWLast
import Derived.BigRegion
import Derived.Laws.CopyOwn
import Derived.ChangeKeysEq
import Derived.Deep.Slices
import Derived.Deep.Fields
import Derived.ChangeSame
import Derived.SliceStrings
import GoSem.Op.String
import Derived.Deep.QuietTactic
import Derived.BigQuiet
section
set_option linter.unusedVariables false
set_option linter.unusedSimpArgs false
/- The contract of the reader's Text (layer 2). -/
set_option linter.unusedVariables false
set_option linter.unusedSimpArgs false
namespace Go.Proofs.YtdgejkiackeieaaDoor.Wr
open Go.RowKit Go.Proofs.YtdgejkiackeieaaDoor Go.Proofs.YtdgejkiackeieaaDoor.PWr Go.Proofs.YtdgejkiackeieaaDoorW.PrintWords Go.Proofs.YtdgejkiackeieaaDoorW.PrintMore
/-- What a call leaves of the world: the reader's block apart, all that was there is as it was. -/
structure Lf (w0 w w' : World) (g : Nat) (s : ByteArray) (bad : Bool) : Prop where
  is : IsS117 w0 w' g s bad
  below : Below w0.heap.size w0 w'
  keep : KeepBut w w' g none
theorem KeepBut.trans_ {w w1 w2 : World} {g : Nat} (h : KeepBut w w1 g none) (k : KeepBut w1 w2 g none) : KeepBut w w2 g none := h.trans k (Or.inl rfl)
theorem Lf.trans {w0 w w1 w2 : World} {g : Nat} {s t : ByteArray} {bad bad' : Bool} (h : Lf w0 w w1 g s bad) (k : Lf w0 w1 w2 g t bad') : Lf w0 w w2 g t bad' := ⟨k.is, k.below, KeepBut.trans_ h.keep k.keep⟩
theorem Lf.more {w0 w w1 w2 : World} {g : Nat} {s : ByteArray} {bad : Bool} (h : Lf w0 w w1 g s bad) (B : Nat) (hB : w1.heap.size ≤ B ∨ (w.heap.size ≤ B ∧ g < B)) (hb : Below B w1 w2) : Lf w0 w w2 g s bad := by
  have hg : g < w1.heap.size := h.is.lt
  have hge := h.is.ge
  have hk := h.keep.1
  have hw0 := h.below.size
  refine ⟨⟨(hb.block g (by rcases hB with h | h <;> omega)).trans h.is.1, h.is.2⟩, h.below.trans (hb.mono (by rcases hB with h | h <;> omega)), ?_⟩
  refine ⟨Nat.le_trans hk hb.size, fun i hi hig _ => ?_⟩
  rw [hb.block i (by rcases hB with h | h <;> omega)]
  exact h.keep.2 i hi hig (by simp)
theorem byte_c (w0 w : World) (g : Nat) (s : ByteArray) (bad : Bool) (hI : IsS117 w0 w g s bad) (hB : Below w0.heap.size w0 w) (c : UInt8) (t : List UInt8) (cI : Int) (hl : s.data.toList = c :: t) (hc : (c.toNat : Int) = cI) :
    Calls Tryd.prog 117 #[.pointer (some ⟨g, 0, none⟩)] w fun e w' => e = .returned (.tuple #[.int .u8 cI, .bool true]) ∧ Lf w0 w w' g (mkB t) bad := by
  subst hc
  exact (wire_Reader_byte.calls g s bad _ _ _ _ w0 w hI hB (byte_cons s bad c t hl)).mono fun e w' ⟨he, h1, h2, h3⟩ => ⟨he, h1, h2, h3⟩
theorem byte_n (w0 w : World) (g : Nat) (s : ByteArray) (bad : Bool) (hI : IsS117 w0 w g s bad) (hB : Below w0.heap.size w0 w) (hl : s.data.toList = []) :
    Calls Tryd.prog 117 #[.pointer (some ⟨g, 0, none⟩)] w fun e w' => e = .returned (.tuple #[.int .u8 0, .bool false]) ∧ Lf w0 w w' g (mkB []) true :=
  (wire_Reader_byte.calls g s bad _ _ _ _ w0 w hI hB (byte_nil s bad hl)).mono fun e w' ⟨he, h1, h2, h3⟩ => ⟨he, h1, h2, h3⟩
theorem fail_c (w0 w : World) (g : Nat) (s : ByteArray) (bad : Bool) (hI : IsS117 w0 w g s bad) (hB : Below w0.heap.size w0 w) :
    Calls Tryd.prog 115 #[.pointer (some ⟨g, 0, none⟩)] w fun e w' => e = .returned (.tuple #[]) ∧ Lf w0 w w' g (mkB []) true :=
  (wire_Reader_fail.calls g s bad _ _ w0 w hI hB rfl).mono fun e w' ⟨he, h1, h2, h3⟩ => ⟨he, h1, h2, h3⟩
theorem byteCells_snoc (pre : List UInt8) (c : UInt8) : Lib.byteCells (pre ++ [c]) = Lib.byteCells pre ++ [.int .u8 (c.toNat : Int)] := by rw [Lib.byteCells_append]; rfl
theorem builder_kept {T e : TypeId} {B b : Nat} {bs : List Value} {w w' : World} (h : Lib.IsBuilderF T e B b bs w) (hk : ∀ k, B ≤ k → k < w.heap.size → w'.heap[k]? = w.heap[k]?) : Lib.IsBuilderF T e B b bs w' := by
  have one : ∀ p, Lib.BuilderAtF T e B b p bs w → Lib.BuilderAtF T e B b p bs w' := by
    rintro p ⟨hB, v, hb, ⟨hl, hv⟩, hne⟩
    refine ⟨hB, v, (hk b hB (Array.getElem?_eq_some_iff.1 hb).1).trans hb, ⟨hl, ?_⟩, hne⟩
    rcases hv with hv | ⟨g, cap, cur, fz, e1, e2, e3, e4⟩
    · exact .inl hv
    · exact .inr ⟨g, cap, cur, fz, e1, e2, (hk g e2 (Array.getElem?_eq_some_iff.1 e3).1).trans e3, e4⟩
  exact h.imp (one _) (one _)
theorem Lf.old {w0 w w' : World} {g : Nat} {s : ByteArray} {bad : Bool} (h : Lf w0 w w' g s bad) (B : Nat) (hg : g < B) : ∀ k, B ≤ k → k < w.heap.size → w'.heap[k]? = w.heap[k]? := fun k hk hlt => h.keep.2 k hlt (by omega) (by simp)
theorem ret_s {a b : ByteArray} (h : a = b) : Ending.returned (.string a) = .returned (.string b) := by rw [h]
theorem ne_int (c : UInt8) (n : Nat) (hn : n < 256) (h : ¬ c = UInt8.ofNat n) : ¬ (c.toNat : Int) = (n : Int) := fun h' => h ((byte_eq_iff c n hn).1 h')
set_option maxHeartbeats 8000000 in
set_option maxRecDepth 100000 in
theorem RText_any (g : Nat) (s : ByteArray) (bad : Bool) (w0 w : World) (hI : IsS117 w0 w g s bad) (hB : Below w0.heap.size w0 w) (hs : s.size ≤ 10000000) :
    Calls Tryd.prog 74 #[.pointer (some ⟨g, 0, none⟩)] w fun e w' => e = .returned (.string (rdrS (textR s.data.toList) bad).1) ∧ Lf w0 w w' g (rdrS (textR s.data.toList) bad).2.1 (rdrS (textR s.data.toList) bad).2.2 := by
  have hg := hI.lt
  have hz : s.size = s.data.toList.length := (len_size s).symm
  have HI := Lib.hid hI; have HB := Lib.hid hB; have HZ := Lib.hid hz
  clear hI hB hz
  go_enter Tryd.func74, Tryd.ntmps74
  go_wp2
  go_loopg [] (s.size + 1) (fun gk wr => ∃ (pre : List UInt8) (q : ByteArray), Hid (Lf w0 w wr g q bad) ∧ Lib.IsBuilderF 91 5 w.heap.size w.heap.size (Lib.byteCells pre) wr ∧ w.heap.size ≤ wr.heap.size ∧ pre.length + q.data.toList.length ≤ 10000000 ∧ q.data.toList.length < gk ∧ Hid (rdrSp pre (textR q.data.toList) bad = rdrS (textR s.data.toList) bad))
  case atStart =>
    refine ⟨[], s, Lib.hid ?_, Lib.IsBuilderF.of (Lib.fresh_isBuilder 91 5 w), by simp, by rw [← HZ.out]; simp; exact hs, by rw [← HZ.out]; omega, Lib.hid ?_⟩
    · exact Lf.more ⟨HI.out, HB.out, KeepBut.refl w g none⟩ w.heap.size (Or.inl (Nat.le_refl _)) ((Below.refl _ _).alloc (Nat.le_refl _) _)
    · cases textR s.data.toList <;> rfl
  case round =>
    obtain ⟨pre, q, hL, hbd, hsz, hlen, hgk, hR⟩ := hrel
    cases gk with
    | zero => omega
    | succ gk =>
      cases hq : q.data.toList with
      | nil =>
        have HQ := Lib.hid hq
        clear hq
        go_wp2_with (go_at_call 117; refine (byte_n w0 _ g q bad hL.out.is hL.out.below HQ.out).mono ?_; rintro e w1 ⟨rfl, h1⟩)
        go_ret
        have e := hR.out
        rw [HQ.out] at e
        exact ⟨ret_s (by rw [← e]; rfl), by rw [← e]; exact hL.out.trans h1⟩
      | cons c t =>
        rw [hq] at hlen hgk
        simp only [List.length_cons] at hlen hgk
        have e := hR.out
        rw [hq] at e
        have HQ := Lib.hid hq
        clear hq hR
        obtain ⟨cI, hcI⟩ : ∃ cI : Int, (c.toNat : Int) = cI := ⟨_, rfl⟩
        by_cases h0 : c = 0
        · have hz0 : (cI != 0) = false := by rw [← hcI, h0]; rfl
          cases ht : t with
          | nil =>
            subst ht
            have HE := Lib.hid e
            have HC := Lib.hid hcI
            clear e hcI h0
            go_wp2_with (go_at_call 117; refine (byte_c w0 _ g q bad hL.out.is hL.out.below c [] cI HQ.out HC.out).mono ?_; rintro e w1 ⟨rfl, h1⟩)
            have H1 := Lib.hid h1
            clear h1
            go_wp2_with (go_at_call 117; refine (byte_n w0 _ g (mkB []) bad H1.out.is H1.out.below rfl).mono ?_; rintro e w2 ⟨rfl, h2⟩)
            have H2 := Lib.hid h2
            clear h2
            go_wp2_with (go_at_call 115; refine (fail_c w0 _ g (mkB []) true H2.out.is H2.out.below).mono ?_; rintro e w3 ⟨rfl, h3⟩)
            go_ret
            have e := HE.out
            exact ⟨ret_s (by rw [← e]; rfl), by rw [← e]; exact ((hL.out.trans H1.out).trans H2.out).trans h3⟩
          | cons d t' =>
            subst ht
            simp only [List.length_cons] at hlen hgk
            obtain ⟨dI, hdI⟩ : ∃ dI : Int, (d.toNat : Int) = dI := ⟨_, rfl⟩
            have hd0 : 0 ≤ dI := by omega
            rw [h0, textR, if_pos rfl] at e
            by_cases h255 : d = 255
            · have k1 : (dI == 255) = true := by rw [← hdI, h255]; rfl
              rw [if_pos h255] at e
              have HE := Lib.hid e
              have HC := Lib.hid hcI
              have HD := Lib.hid hdI
              clear e hcI hdI h0 h255
              go_wp2_with (go_at_call 117; refine (byte_c w0 _ g q bad hL.out.is hL.out.below c (d :: t') cI HQ.out HC.out).mono ?_; rintro e w1 ⟨rfl, h1⟩)
              have H1 := Lib.hid h1
              clear h1
              go_wp2_with (go_at_call 117; refine (byte_c w0 _ g (mkB (d :: t')) bad H1.out.is H1.out.below d t' dI rfl HD.out).mono ?_; rintro e w2 ⟨rfl, h2⟩)
              have hbd2 := builder_kept (builder_kept hbd (Lf.old H1.out w.heap.size hg)) (fun k hk hlt => Lf.old h2 w.heap.size hg k hk hlt)
              have hL2 := (hL.out.trans H1.out).trans h2
              have hsz2 : w.heap.size ≤ w2.heap.size := hL2.keep.1
              have H2 := Lib.hid hL2
              clear h2 hL2
              go_wp2_with (go_at_call 92; refine (writeByte_any w.heap.size w.heap.size _ _ _ hbd2 (by rw [Lib.byteCells_length]; omega) hsz2).mono ?_; rintro e w3 ⟨rfl, h3, b3, _⟩)
              go_roundg gk
              case measure => omega
              case rel =>
                refine ⟨pre ++ [0], mkB t', Lib.hid (H2.out.more w.heap.size (Or.inr ⟨Nat.le_refl _, hg⟩) b3), ?_, Nat.le_trans hsz2 b3.size, ?_, ?_, Lib.hid ?_⟩
                · rw [byteCells_snoc]; exact Or.inr h3
                · rw [mkB_list, List.length_append, List.length_singleton]; omega
                · rw [mkB_list]; omega
                · rw [← HE.out, rdrSp_map]
            · have k1 : (dI == 255) = false := by
                rw [← hdI]; exact beq_eq_false_iff_ne.2 (ne_int d 255 (by decide) h255)
              rw [if_neg h255] at e
              by_cases h1' : d = 1
              · have k2 : (dI == 1) = true := by rw [← hdI, h1']; rfl
                rw [if_pos h1'] at e
                have HE := Lib.hid e
                have HC := Lib.hid hcI
                have HD := Lib.hid hdI
                clear e hcI hdI h0 h255 h1'
                go_wp2_with (go_at_call 117; refine (byte_c w0 _ g q bad hL.out.is hL.out.below c (d :: t') cI HQ.out HC.out).mono ?_; rintro e w1 ⟨rfl, h1⟩)
                have H1 := Lib.hid h1
                clear h1
                go_wp2_with (go_at_call 117; refine (byte_c w0 _ g (mkB (d :: t')) bad H1.out.is H1.out.below d t' dI rfl HD.out).mono ?_; rintro e w2 ⟨rfl, h2⟩)
                have hbd2 := builder_kept (builder_kept hbd (Lf.old H1.out w.heap.size hg)) (fun k hk hlt => Lf.old h2 w.heap.size hg k hk hlt)
                have hL2 := (hL.out.trans H1.out).trans h2
                have hsz2 : w.heap.size ≤ w2.heap.size := hL2.keep.1
                have H2 := Lib.hid hL2
                clear h2 hL2
                go_wp2_with (go_at_call 93; refine (Tryd.Builder_String_any_k w.heap.size w.heap.size _ w2 hbd2 hsz2).mono ?_; rintro e w3 ⟨rfl, _, b3, _⟩)
                go_ret
                have e := HE.out
                refine ⟨ret_s (by rw [← e]; show _ = mkB (pre ++ []); rw [List.append_nil]), ?_⟩
                rw [← e]
                exact H2.out.more w.heap.size (Or.inr ⟨Nat.le_refl _, hg⟩) b3
              · have k2 : (dI == 1) = false := by
                  rw [← hdI]; exact beq_eq_false_iff_ne.2 (ne_int d 1 (by decide) h1')
                rw [if_neg h1'] at e
                have HE := Lib.hid e
                have HC := Lib.hid hcI
                have HD := Lib.hid hdI
                clear e hcI hdI h0 h255 h1'
                go_wp2_with (go_at_call 117; refine (byte_c w0 _ g q bad hL.out.is hL.out.below c (d :: t') cI HQ.out HC.out).mono ?_; rintro e w1 ⟨rfl, h1⟩)
                have H1 := Lib.hid h1
                clear h1
                go_wp2_with (go_at_call 117; refine (byte_c w0 _ g (mkB (d :: t')) bad H1.out.is H1.out.below d t' dI rfl HD.out).mono ?_; rintro e w2 ⟨rfl, h2⟩)
                have H2 := Lib.hid h2
                clear h2
                go_wp2_with (go_at_call 115; refine (fail_c w0 _ g (mkB t') bad H2.out.is H2.out.below).mono ?_; rintro e w3 ⟨rfl, h3⟩)
                go_ret
                have e := HE.out
                exact ⟨ret_s (by rw [← e]; rfl), by rw [← e]; exact ((hL.out.trans H1.out).trans H2.out).trans h3⟩
        · have hz0 : (cI != 0) = true := by
            rw [← hcI]; exact bne_iff_ne.2 (ne_int c 0 (by decide) h0)
          rw [textR_ne c h0] at e
          have HE := Lib.hid e
          have HC := Lib.hid hcI
          clear e hcI h0
          go_wp2_with (go_at_call 117; refine (byte_c w0 _ g q bad hL.out.is hL.out.below c t cI HQ.out HC.out).mono ?_; rintro e w1 ⟨rfl, h1⟩)
          have hbd1 := builder_kept hbd (Lf.old h1 w.heap.size hg)
          have hL1 := hL.out.trans h1
          have hsz1 : w.heap.size ≤ w1.heap.size := hL1.keep.1
          have H1 := Lib.hid hL1
          clear h1 hL1
          go_wp2_with (go_at_call 92; refine (writeByte_any w.heap.size w.heap.size _ _ _ hbd1 (by rw [Lib.byteCells_length]; omega) hsz1).mono ?_; rintro e w2 ⟨rfl, h2, b2, _⟩)
          go_roundg gk
          case measure => omega
          case rel =>
            refine ⟨pre ++ [c], mkB t, Lib.hid (H1.out.more w.heap.size (Or.inr ⟨Nat.le_refl _, hg⟩) b2), ?_, Nat.le_trans hsz1 b2.size, ?_, ?_, Lib.hid ?_⟩
            · rw [byteCells_snoc, HC.out]; exact Or.inr h2
            · rw [mkB_list, List.length_append, List.length_singleton]; omega
            · rw [mkB_list]; omega
            · rw [← HE.out, rdrSp_map]
end Go.Proofs.YtdgejkiackeieaaDoor.Wr
end
section
set_option linter.unusedVariables false
set_option linter.unusedSimpArgs false
/- The contracts of the readers of lists (layer 2). -/
set_option linter.unusedVariables false
set_option linter.unusedSimpArgs false
namespace Go.Proofs.YtdgejkiackeieaaDoor.Wr
open Go.RowKit Go.Proofs.YtdgejkiackeieaaDoor Go.Proofs.YtdgejkiackeieaaDoor.PWr Go.Proofs.YtdgejkiackeieaaDoorW.PrintWords Go.Proofs.YtdgejkiackeieaaDoorW.PrintMore
theorem RInt_any (g : Nat) (s : ByteArray) (bad : Bool) (w0 w : World) (hI : IsS117 w0 w g s bad) (hB : Below w0.heap.size w0 w) (hs : s.size ≤ 10000000) :
    Calls Tryd.prog 72 #[.pointer (some ⟨g, 0, none⟩)] w fun e w' => e = .returned (.int .i64 (rdr (intR s.data.toList) 0 bad).1) ∧ Lf w0 w w' g (rdr (intR s.data.toList) 0 bad).2.1 (rdr (intR s.data.toList) 0 bad).2.2 := by
  obtain ⟨k, hk⟩ := Reader_Int_eq s hs bad
  exact (wire_Reader_Int.calls k g s bad _ _ _ w0 w hI hB hk).mono fun e w' ⟨he, h1, h2, h3⟩ => ⟨he, h1, h2, h3⟩
theorem own_kept {e : TypeId} {B size n : Nat} {v : Value} {xs : List Value} {w w' : World} (h : w.ownsRow B e size v n xs) (hk : ∀ k, B ≤ k → k < w.heap.size → w'.heap[k]? = w.heap[k]?) : w'.ownsRow B e size v n xs := by
  obtain ⟨hl, hv⟩ := h
  refine ⟨hl, ?_⟩
  rcases hv with hv | ⟨g, cap, cur, e1, e2, e3, e4⟩
  · exact .inl hv
  · exact .inr ⟨g, cap, cur, e1, e2, (hk g e2 (Array.getElem?_eq_some_iff.1 e3).1).trans e3, e4⟩
theorem own_ge {e : TypeId} {B size n : Nat} {v : Value} {xs : List Value} {w : World} (h : w.ownsRow B e size v n xs) : ∀ k, v.ownBlock = some k → B ≤ k := by
  intro k hk
  rcases h.2 with ⟨hv, _⟩ | ⟨g, cap, cur, e1, e2, _⟩
  · rw [hv] at hk; cases hk
  · rw [e1] at hk
    have : g = k := by simpa [Value.ownBlock] using hk
    omega
theorem cells_one (w : World) (u : Value) (t : TypeId) : ∀ j v, ([u] : List Value)[j]? = some v → (w.alloc (.cells #[u] t)).cell? ((⟨w.heap.size, 0, none⟩ : Addr).add j) = some v := by
  intro j v hj
  match j, hj with
  | 0, hj => simp at hj; subst hj; simp [Addr.add]
theorem Okr.cons {s : ByteArray} {bad : Bool} (h : Okr s bad) {c : UInt8} {t : List UInt8} (hl : s.data.toList = c :: t) : bad = false := by
  cases bad with
  | false => rfl
  | true => rw [h rfl] at hl; cases hl
theorem info3 : (Tryd.prog.info? 3).map (fun i => (i.zero, i.size, i.bytes)) = some (some (.int .i64 0), 1, 8) := by kernel_rfl
set_option maxHeartbeats 8000000 in
set_option maxRecDepth 100000 in
theorem elems118 (g : Nat) (s : ByteArray) (bad : Bool) (hok : Okr s bad) (w0 w : World) (hI : IsS117 w0 w g s bad) (hB : Below w0.heap.size w0 w) (hs : s.size ≤ 10000000) :
    Calls Tryd.prog 118 #[.pointer (some ⟨g, 0, none⟩), .func (.func 72) #[.pointer (some ⟨g, 0, none⟩)] #[]] w fun e w' => ∃ v0_ : Value, e = .returned v0_ ∧ Kd.R (Kd.int .i64) 3 w' w.heap.size (fun _ => True) v0_ (rdrL (fun (n : Int) => n) [] (numsR s.data.toList) bad).1 ∧
      Lf w0 w w' g (rdrL (fun (n : Int) => n) [] (numsR s.data.toList) bad).2.1 (rdrL (fun (n : Int) => n) [] (numsR s.data.toList) bad).2.2 := by
  have hg := hI.lt
  obtain ⟨i0, hi, hz0, hz1, hz2⟩ := info_parts info3
  have hz : s.size = s.data.toList.length := (len_size s).symm
  have HI := Lib.hid hI; have HB := Lib.hid hB; have HZ := Lib.hid hz; have HOK := Lib.hid hok
  clear hI hB hz hok
  go_enter Tryd.func118, Tryd.ntmps118
  go_wp2
  go_loopg [5] (s.data.toList.length + 1) (fun gk v5 wr => ∃ (acc : List Int) (q : ByteArray), Hid (Lf w0 w wr g q bad) ∧ Hid (Okr q bad) ∧ wr.ownsRow w.heap.size 3 1 v5 acc.length (acc.map (Value.int .i64)) ∧ w.heap.size ≤ wr.heap.size ∧ acc.length + q.data.toList.length ≤ 10000000 ∧ q.data.toList.length < gk ∧ Hid (rdrL (fun (n : Int) => n) acc (listR intR gk q.data.toList) bad = rdrL (fun (n : Int) => n) [] (numsR s.data.toList) bad))
  case atStart => exact ⟨[], s, Lib.hid ⟨HI.out, HB.out, KeepBut.refl w g none⟩, HOK, World.ownsRow_nil _ _ _ _, Nat.le_refl _, by rw [← HZ.out]; simp; exact hs, by omega, Lib.hid rfl⟩
  case round =>
    obtain ⟨acc, q, hL, hQk, hown, hsz, hlen, hgk, hR⟩ := hrel
    cases gk with
    | zero => omega
    | succ gk =>
      cases hq : q.data.toList with
      | nil =>
        have HQ := Lib.hid hq
        clear hq
        go_wp2_with (go_at_call 117; refine (byte_n w0 _ g q bad hL.out.is hL.out.below HQ.out).mono ?_; rintro e w1 ⟨rfl, h1⟩)
        go_ret
        have e := hR.out
        rw [HQ.out] at e
        refine ⟨_, rfl, ?_⟩
        rw [← e]
        exact ⟨Kd.R_nil _ _ _ _ _, hL.out.trans h1⟩
      | cons c t =>
        obtain rfl := hQk.out.cons hq
        rw [hq] at hlen hgk
        simp only [List.length_cons] at hlen hgk
        have e := hR.out
        rw [hq, listR] at e
        have HQ := Lib.hid hq
        clear hq hR
        obtain ⟨cI, hcI⟩ : ∃ cI : Int, (c.toNat : Int) = cI := ⟨_, rfl⟩
        by_cases h0 : c = 0
        · have k0 : (cI == 0) = true := by rw [← hcI, h0]; rfl
          rw [if_pos h0] at e
          have HE := Lib.hid e
          have HC := Lib.hid hcI
          clear e hcI h0
          go_wp2_with (go_at_call 117; refine (byte_c w0 _ g q false hL.out.is hL.out.below c t cI HQ.out HC.out).mono ?_; rintro e w1 ⟨rfl, h1⟩)
          go_ret
          have e := HE.out
          refine ⟨_, rfl, ?_⟩
          rw [← e]
          show Kd.R _ _ _ _ _ _ (acc ++ []) ∧ _
          rw [List.append_nil]
          exact ⟨Kd.R_of_own (h1 := fun _ => rfl) (own_kept hown (Lf.old h1 w.heap.size hg)) (fun _ _ => trivial), hL.out.trans h1⟩
        · have k0 : (cI == 0) = false := by rw [← hcI]; exact beq_eq_false_iff_ne.2 (ne_int c 0 (by decide) h0)
          rw [if_neg h0] at e
          by_cases h1 : c = 1
          · have k1 : (cI != 1) = false := by rw [← hcI, h1]; rfl
            rw [if_pos h1] at e
            have HC := Lib.hid hcI
            clear hcI h0 h1
            cases ho : intR t with
            | none =>
              rw [ho] at e
              have HE := Lib.hid e
              have HO : Hid (rdr (intR (mkB t).data.toList) (0 : Int) false = ((0 : Int), mkB [], true)) := Lib.hid (by rw [mkB_list, ho]; rfl)
              clear e ho
              go_wp2_with (go_at_call 117; refine (byte_c w0 _ g q false hL.out.is hL.out.below c t cI HQ.out HC.out).mono ?_; rintro e w1 ⟨rfl, h1⟩)
              have hown1 := own_kept hown (Lf.old h1 w.heap.size hg)
              have H1 := Lib.hid (hL.out.trans h1)
              clear h1 hown
              go_wp2_with fail
              refine (RInt_any g (mkB t) false w0 _ H1.out.is H1.out.below (by rw [mkB_size]; omega)).mono ?_
              rw [HO.out]
              rintro e w2 ⟨rfl, h2⟩
              have hown2 := own_kept hown1 (Lf.old h2 w.heap.size hg)
              have H2 := Lib.hid (H1.out.trans h2)
              have hsz2 : w.heap.size ≤ w2.heap.size := H2.out.keep.1
              clear h2 hown1
              go_wp2_with (at_builtin; refine wpList_append_own _ rfl _ _ 48 rfl w.heap.size 3 i0 (.int .i64 0) 1 8 Tryd.underlying48 hi hz0 hz1 hz2 rfl (by decide) _ _ _ rfl (hown2.alloc _) ⟨w2.heap.size, 0, none⟩ 1 1 [(Value.int .i64) (0 : Int)] rfl rfl ?c1 ?c2 ?c3 ?c4 ?c5 ?_)
              case c1 => exact cells_one _ _ _
              case c2 => intro u hu; simp at hu; subst hu; rfl
              case c3 => unfold maxLen; omega
              case c4 => omega
              case c5 => simp; omega
              intro v' w3 hown' hgrow _
              have hb3 : Below w.heap.size w2 w3 := ((Below.refl w.heap.size w2).alloc hsz2 _).grown hgrow (by simp; omega) (own_ge hown2)
              have H3 := Lib.hid (H2.out.more w.heap.size (Or.inr ⟨Nat.le_refl _, hg⟩) hb3)
              have hbc := cellS117_1 H3.out.is.1
              clear hown2 hown' hgrow hb3
              go_wp2
              go_ret
              have e := HE.out
              refine ⟨_, rfl, ?_⟩
              rw [← e]
              exact ⟨Kd.R_nil _ _ _ _ _, H3.out⟩
            | some p =>
              obtain ⟨x, r⟩ := p
              rw [ho] at e
              have hr := intR_length t x r ho
              have HE := Lib.hid e
              have HO : Hid (rdr (intR (mkB t).data.toList) (0 : Int) false = (x, mkB r, false)) := Lib.hid (by rw [mkB_list, ho]; rfl)
              clear e ho
              go_wp2_with (go_at_call 117; refine (byte_c w0 _ g q false hL.out.is hL.out.below c t cI HQ.out HC.out).mono ?_; rintro e w1 ⟨rfl, h1⟩)
              have hown1 := own_kept hown (Lf.old h1 w.heap.size hg)
              have H1 := Lib.hid (hL.out.trans h1)
              clear h1 hown
              go_wp2_with fail
              refine (RInt_any g (mkB t) false w0 _ H1.out.is H1.out.below (by rw [mkB_size]; omega)).mono ?_
              rw [HO.out]
              rintro e w2 ⟨rfl, h2⟩
              have hown2 := own_kept hown1 (Lf.old h2 w.heap.size hg)
              have H2 := Lib.hid (H1.out.trans h2)
              have hsz2 : w.heap.size ≤ w2.heap.size := H2.out.keep.1
              clear h2 hown1
              go_wp2_with (at_builtin; refine wpList_append_own _ rfl _ _ 48 rfl w.heap.size 3 i0 (.int .i64 0) 1 8 Tryd.underlying48 hi hz0 hz1 hz2 rfl (by decide) _ _ _ rfl (hown2.alloc _) ⟨w2.heap.size, 0, none⟩ 1 1 [(Value.int .i64) x] rfl rfl ?c1 ?c2 ?c3 ?c4 ?c5 ?_)
              case c1 => exact cells_one _ _ _
              case c2 => intro u hu; simp at hu; subst hu; rfl
              case c3 => unfold maxLen; omega
              case c4 => omega
              case c5 => simp; omega
              intro v' w3 hown' hgrow _
              have hb3 : Below w.heap.size w2 w3 := ((Below.refl w.heap.size w2).alloc hsz2 _).grown hgrow (by simp; omega) (own_ge hown2)
              have H3 := Lib.hid (H2.out.more w.heap.size (Or.inr ⟨Nat.le_refl _, hg⟩) hb3)
              have hbc := cellS117_1 H3.out.is.1
              have hsz3 : w.heap.size ≤ w3.heap.size := H3.out.keep.1
              clear hown2 hgrow hb3
              go_wp2
              go_roundg gk
              case measure => omega
              case rel =>
                refine ⟨acc ++ [x], mkB r, H3, Lib.hid (fun h => by cases h), ?_, hsz3, ?_, ?_, Lib.hid ?_⟩
                · rw [List.length_append, List.length_singleton, List.map_append]; exact hown'
                · rw [mkB_list, List.length_append, List.length_singleton]; omega
                · rw [mkB_list]; omega
                · rw [← HE.out]; exact (rdrL_map (fun (n : Int) => n) acc x _ false).symm
          · have k1 : (cI != 1) = true := by rw [← hcI]; exact bne_iff_ne.2 (ne_int c 1 (by decide) h1)
            rw [if_neg h1] at e
            have HE := Lib.hid e
            have HC := Lib.hid hcI
            clear e hcI h0 h1
            go_wp2_with (go_at_call 117; refine (byte_c w0 _ g q false hL.out.is hL.out.below c t cI HQ.out HC.out).mono ?_; rintro e w1 ⟨rfl, h1⟩)
            have H1 := Lib.hid (hL.out.trans h1)
            clear h1
            go_wp2_with (go_at_call 115; refine (fail_c w0 _ g (mkB t) false H1.out.is H1.out.below).mono ?_; rintro e w2 ⟨rfl, h2⟩)
            go_ret
            have e := HE.out
            refine ⟨_, rfl, ?_⟩
            rw [← e]
            exact ⟨Kd.R_nil _ _ _ _ _, H1.out.trans h2⟩
set_option maxRecDepth 100000 in
theorem RNums_any (g : Nat) (s : ByteArray) (bad : Bool) (hok : Okr s bad) (w0 w : World) (hI : IsS117 w0 w g s bad) (hB : Below w0.heap.size w0 w) (hs : s.size ≤ 10000000) :
    Calls Tryd.prog 77 #[.pointer (some ⟨g, 0, none⟩)] w fun e w' => ∃ v0_ : Value, e = .returned v0_ ∧ Kd.R (Kd.int .i64) 3 w' w.heap.size (fun _ => True) v0_ (rdrL (fun (n : Int) => n) [] (numsR s.data.toList) bad).1 ∧
      Lf w0 w w' g (rdrL (fun (n : Int) => n) [] (numsR s.data.toList) bad).2.1 (rdrL (fun (n : Int) => n) [] (numsR s.data.toList) bad).2.2 := by
  go_enter Tryd.func77, Tryd.ntmps77
  go_wp2_with (go_at_call 118; refine (elems118 g s bad hok w0 w hI hB hs).mono ?_; rintro e w1 ⟨v0, rfl, h1, h2⟩)
  go_ret
  exact ⟨_, rfl, h1, h2⟩
theorem info9 : (Tryd.prog.info? 9).map (fun i => (i.zero, i.size, i.bytes)) = some (some (.string ⟨#[]⟩), 1, 16) := by kernel_rfl
set_option maxHeartbeats 8000000 in
set_option maxRecDepth 100000 in
theorem elems120 (g : Nat) (s : ByteArray) (bad : Bool) (hok : Okr s bad) (w0 w : World) (hI : IsS117 w0 w g s bad) (hB : Below w0.heap.size w0 w) (hs : s.size ≤ 10000000) :
    Calls Tryd.prog 120 #[.pointer (some ⟨g, 0, none⟩), .func (.func 74) #[.pointer (some ⟨g, 0, none⟩)] #[]] w fun e w' => ∃ v0_ : Value, e = .returned v0_ ∧ Kd.R Kd.string 9 w' w.heap.size (fun _ => True) v0_ (rdrL mkB [] (textsR s.data.toList) bad).1 ∧
      Lf w0 w w' g (rdrL mkB [] (textsR s.data.toList) bad).2.1 (rdrL mkB [] (textsR s.data.toList) bad).2.2 := by
  have hg := hI.lt
  obtain ⟨i0, hi, hz0, hz1, hz2⟩ := info_parts info9
  have hz : s.size = s.data.toList.length := (len_size s).symm
  have HI := Lib.hid hI; have HB := Lib.hid hB; have HZ := Lib.hid hz; have HOK := Lib.hid hok
  clear hI hB hz hok
  go_enter Tryd.func120, Tryd.ntmps120
  go_wp2
  go_loopg [5] (s.data.toList.length + 1) (fun gk v5 wr => ∃ (acc : List ByteArray) (q : ByteArray), Hid (Lf w0 w wr g q bad) ∧ Hid (Okr q bad) ∧ wr.ownsRow w.heap.size 9 1 v5 acc.length (acc.map Value.string) ∧ w.heap.size ≤ wr.heap.size ∧ acc.length + q.data.toList.length ≤ 10000000 ∧ q.data.toList.length < gk ∧ Hid (rdrL mkB acc (listR textR gk q.data.toList) bad = rdrL mkB [] (textsR s.data.toList) bad))
  case atStart => exact ⟨[], s, Lib.hid ⟨HI.out, HB.out, KeepBut.refl w g none⟩, HOK, World.ownsRow_nil _ _ _ _, Nat.le_refl _, by rw [← HZ.out]; simp; exact hs, by omega, Lib.hid rfl⟩
  case round =>
    obtain ⟨acc, q, hL, hQk, hown, hsz, hlen, hgk, hR⟩ := hrel
    cases gk with
    | zero => omega
    | succ gk =>
      cases hq : q.data.toList with
      | nil =>
        have HQ := Lib.hid hq
        clear hq
        go_wp2_with (go_at_call 117; refine (byte_n w0 _ g q bad hL.out.is hL.out.below HQ.out).mono ?_; rintro e w1 ⟨rfl, h1⟩)
        go_ret
        have e := hR.out
        rw [HQ.out] at e
        refine ⟨_, rfl, ?_⟩
        rw [← e]
        exact ⟨Kd.R_nil _ _ _ _ _, hL.out.trans h1⟩
      | cons c t =>
        obtain rfl := hQk.out.cons hq
        rw [hq] at hlen hgk
        simp only [List.length_cons] at hlen hgk
        have e := hR.out
        rw [hq, listR] at e
        have HQ := Lib.hid hq
        clear hq hR
        obtain ⟨cI, hcI⟩ : ∃ cI : Int, (c.toNat : Int) = cI := ⟨_, rfl⟩
        by_cases h0 : c = 0
        · have k0 : (cI == 0) = true := by rw [← hcI, h0]; rfl
          rw [if_pos h0] at e
          have HE := Lib.hid e
          have HC := Lib.hid hcI
          clear e hcI h0
          go_wp2_with (go_at_call 117; refine (byte_c w0 _ g q false hL.out.is hL.out.below c t cI HQ.out HC.out).mono ?_; rintro e w1 ⟨rfl, h1⟩)
          go_ret
          have e := HE.out
          refine ⟨_, rfl, ?_⟩
          rw [← e]
          show Kd.R _ _ _ _ _ _ (acc ++ []) ∧ _
          rw [List.append_nil]
          exact ⟨Kd.R_of_own (h1 := fun _ => rfl) (own_kept hown (Lf.old h1 w.heap.size hg)) (fun _ _ => trivial), hL.out.trans h1⟩
        · have k0 : (cI == 0) = false := by rw [← hcI]; exact beq_eq_false_iff_ne.2 (ne_int c 0 (by decide) h0)
          rw [if_neg h0] at e
          by_cases h1 : c = 1
          · have k1 : (cI != 1) = false := by rw [← hcI, h1]; rfl
            rw [if_pos h1] at e
            have HC := Lib.hid hcI
            clear hcI h0 h1
            cases ho : textR t with
            | none =>
              rw [ho] at e
              have HE := Lib.hid e
              have HO : Hid (rdrS (textR (mkB t).data.toList)  false = ((mkB []), mkB [], true)) := Lib.hid (by rw [mkB_list, ho]; rfl)
              clear e ho
              go_wp2_with (go_at_call 117; refine (byte_c w0 _ g q false hL.out.is hL.out.below c t cI HQ.out HC.out).mono ?_; rintro e w1 ⟨rfl, h1⟩)
              have hown1 := own_kept hown (Lf.old h1 w.heap.size hg)
              have H1 := Lib.hid (hL.out.trans h1)
              clear h1 hown
              go_wp2_with fail
              refine (RText_any g (mkB t) false w0 _ H1.out.is H1.out.below (by rw [mkB_size]; omega)).mono ?_
              rw [HO.out]
              rintro e w2 ⟨rfl, h2⟩
              have hown2 := own_kept hown1 (Lf.old h2 w.heap.size hg)
              have H2 := Lib.hid (H1.out.trans h2)
              have hsz2 : w.heap.size ≤ w2.heap.size := H2.out.keep.1
              clear h2 hown1
              go_wp2_with (at_builtin; refine wpList_append_own _ rfl _ _ 40 rfl w.heap.size 9 i0 (.string ⟨#[]⟩) 1 16 Tryd.underlying40 hi hz0 hz1 hz2 rfl (by decide) _ _ _ rfl (hown2.alloc _) ⟨w2.heap.size, 0, none⟩ 1 1 [Value.string (mkB [])] rfl rfl ?c1 ?c2 ?c3 ?c4 ?c5 ?_)
              case c1 => exact cells_one _ _ _
              case c2 => intro u hu; simp at hu; subst hu; rfl
              case c3 => unfold maxLen; omega
              case c4 => omega
              case c5 => simp; omega
              intro v' w3 hown' hgrow _
              have hb3 : Below w.heap.size w2 w3 := ((Below.refl w.heap.size w2).alloc hsz2 _).grown hgrow (by simp; omega) (own_ge hown2)
              have H3 := Lib.hid (H2.out.more w.heap.size (Or.inr ⟨Nat.le_refl _, hg⟩) hb3)
              have hbc := cellS117_1 H3.out.is.1
              clear hown2 hown' hgrow hb3
              go_wp2
              go_ret
              have e := HE.out
              refine ⟨_, rfl, ?_⟩
              rw [← e]
              exact ⟨Kd.R_nil _ _ _ _ _, H3.out⟩
            | some p =>
              obtain ⟨x, r⟩ := p
              rw [ho] at e
              have hr := textR_length t x r ho
              have HE := Lib.hid e
              have HO : Hid (rdrS (textR (mkB t).data.toList)  false = ((mkB x), mkB r, false)) := Lib.hid (by rw [mkB_list, ho]; rfl)
              clear e ho
              go_wp2_with (go_at_call 117; refine (byte_c w0 _ g q false hL.out.is hL.out.below c t cI HQ.out HC.out).mono ?_; rintro e w1 ⟨rfl, h1⟩)
              have hown1 := own_kept hown (Lf.old h1 w.heap.size hg)
              have H1 := Lib.hid (hL.out.trans h1)
              clear h1 hown
              go_wp2_with fail
              refine (RText_any g (mkB t) false w0 _ H1.out.is H1.out.below (by rw [mkB_size]; omega)).mono ?_
              rw [HO.out]
              rintro e w2 ⟨rfl, h2⟩
              have hown2 := own_kept hown1 (Lf.old h2 w.heap.size hg)
              have H2 := Lib.hid (H1.out.trans h2)
              have hsz2 : w.heap.size ≤ w2.heap.size := H2.out.keep.1
              clear h2 hown1
              go_wp2_with (at_builtin; refine wpList_append_own _ rfl _ _ 40 rfl w.heap.size 9 i0 (.string ⟨#[]⟩) 1 16 Tryd.underlying40 hi hz0 hz1 hz2 rfl (by decide) _ _ _ rfl (hown2.alloc _) ⟨w2.heap.size, 0, none⟩ 1 1 [Value.string (mkB x)] rfl rfl ?c1 ?c2 ?c3 ?c4 ?c5 ?_)
              case c1 => exact cells_one _ _ _
              case c2 => intro u hu; simp at hu; subst hu; rfl
              case c3 => unfold maxLen; omega
              case c4 => omega
              case c5 => simp; omega
              intro v' w3 hown' hgrow _
              have hb3 : Below w.heap.size w2 w3 := ((Below.refl w.heap.size w2).alloc hsz2 _).grown hgrow (by simp; omega) (own_ge hown2)
              have H3 := Lib.hid (H2.out.more w.heap.size (Or.inr ⟨Nat.le_refl _, hg⟩) hb3)
              have hbc := cellS117_1 H3.out.is.1
              have hsz3 : w.heap.size ≤ w3.heap.size := H3.out.keep.1
              clear hown2 hgrow hb3
              go_wp2
              go_roundg gk
              case measure => omega
              case rel =>
                refine ⟨acc ++ [(mkB x)], mkB r, H3, Lib.hid (fun h => by cases h), ?_, hsz3, ?_, ?_, Lib.hid ?_⟩
                · rw [List.length_append, List.length_singleton, List.map_append]; exact hown'
                · rw [mkB_list, List.length_append, List.length_singleton]; omega
                · rw [mkB_list]; omega
                · rw [← HE.out]; exact (rdrL_map mkB acc x _ false).symm
          · have k1 : (cI != 1) = true := by rw [← hcI]; exact bne_iff_ne.2 (ne_int c 1 (by decide) h1)
            rw [if_neg h1] at e
            have HE := Lib.hid e
            have HC := Lib.hid hcI
            clear e hcI h0 h1
            go_wp2_with (go_at_call 117; refine (byte_c w0 _ g q false hL.out.is hL.out.below c t cI HQ.out HC.out).mono ?_; rintro e w1 ⟨rfl, h1⟩)
            have H1 := Lib.hid (hL.out.trans h1)
            clear h1
            go_wp2_with (go_at_call 115; refine (fail_c w0 _ g (mkB t) false H1.out.is H1.out.below).mono ?_; rintro e w2 ⟨rfl, h2⟩)
            go_ret
            have e := HE.out
            refine ⟨_, rfl, ?_⟩
            rw [← e]
            exact ⟨Kd.R_nil _ _ _ _ _, H1.out.trans h2⟩
set_option maxRecDepth 100000 in
theorem RTexts_any (g : Nat) (s : ByteArray) (bad : Bool) (hok : Okr s bad) (w0 w : World) (hI : IsS117 w0 w g s bad) (hB : Below w0.heap.size w0 w) (hs : s.size ≤ 10000000) :
    Calls Tryd.prog 80 #[.pointer (some ⟨g, 0, none⟩)] w fun e w' => ∃ v0_ : Value, e = .returned v0_ ∧ Kd.R Kd.string 9 w' w.heap.size (fun _ => True) v0_ (rdrL mkB [] (textsR s.data.toList) bad).1 ∧
      Lf w0 w w' g (rdrL mkB [] (textsR s.data.toList) bad).2.1 (rdrL mkB [] (textsR s.data.toList) bad).2.2 := by
  go_enter Tryd.func80, Tryd.ntmps80
  go_wp2_with (go_at_call 120; refine (elems120 g s bad hok w0 w hI hB hs).mono ?_; rintro e w1 ⟨v0, rfl, h1, h2⟩)
  go_ret
  exact ⟨_, rfl, h1, h2⟩
end Go.Proofs.YtdgejkiackeieaaDoor.Wr
end
section
set_option linter.unusedVariables false
set_option linter.unusedSimpArgs false
/- The contract of the reference's reader's Int, Num, Nums (layer 2). -/
set_option linter.unusedVariables false
set_option linter.unusedSimpArgs false
namespace Go.Proofs.YtdgejkiackeieaaDoor.Wr
open Go.RowKit Go.Proofs.YtdgejkiackeieaaDoor Go.Proofs.YtdgejkiackeieaaDoor.PWr Go.Proofs.YtdgejkiackeieaaDoorW.PrintWords Go.Proofs.YtdgejkiackeieaaDoorW.PrintMore Go.Proofs.YtdgejkiackeieaaDoorW.PrintLast
/-- What a call leaves of the world: the reference's reader's block apart, all that was there is as it was. -/
structure Lg (w0 w w' : World) (g : Nat) (s : ByteArray) (bad : Bool) : Prop where
  is : IsS119 w0 w' g s bad
  below : Below w0.heap.size w0 w'
  keep : KeepBut w w' g none
theorem Lg.trans {w0 w w1 w2 : World} {g : Nat} {s t : ByteArray} {bad bad' : Bool} (h : Lg w0 w w1 g s bad) (k : Lg w0 w1 w2 g t bad') : Lg w0 w w2 g t bad' := ⟨k.is, k.below, KeepBut.trans_ h.keep k.keep⟩
theorem Lg.more {w0 w w1 w2 : World} {g : Nat} {s : ByteArray} {bad : Bool} (h : Lg w0 w w1 g s bad) (B : Nat) (hB : w1.heap.size ≤ B ∨ (w.heap.size ≤ B ∧ g < B)) (hb : Below B w1 w2) : Lg w0 w w2 g s bad := by
  have hg : g < w1.heap.size := h.is.lt
  have hge := h.is.ge
  have hk := h.keep.1
  have hw0 := h.below.size
  refine ⟨⟨(hb.block g (by rcases hB with h | h <;> omega)).trans h.is.1, h.is.2⟩, h.below.trans (hb.mono (by rcases hB with h | h <;> omega)), ?_⟩
  refine ⟨Nat.le_trans hk hb.size, fun i hi hig _ => ?_⟩
  rw [hb.block i (by rcases hB with h | h <;> omega)]
  exact h.keep.2 i hi hig (by simp)
theorem Lg.old {w0 w w' : World} {g : Nat} {s : ByteArray} {bad : Bool} (h : Lg w0 w w' g s bad) (B : Nat) (hg : g < B) : ∀ k, B ≤ k → k < w.heap.size → w'.heap[k]? = w.heap[k]? := fun k hk hlt => h.keep.2 k hlt (by omega) (by simp)
theorem ext_l {s t : ByteArray} (h : s.toList = t.toList) : s = t := ext_ (by rw [← ByteArray.toList_eq, h, ByteArray.toList_eq])
theorem extract_take (s : ByteArray) (n : Nat) : s.extract 0 n = mkB (s.data.toList.take n) := by
  apply ext_
  rw [Lib.extract_data, mkB_list]; simp
end Go.Proofs.YtdgejkiackeieaaDoor.Wr
end
section
set_option linter.unusedVariables false
set_option linter.unusedSimpArgs false
/- The rest of the contracts of both readers (layer 2): Int, Num, Nums, Left, Done, Open. -/
set_option linter.unusedVariables false
set_option linter.unusedSimpArgs false
namespace Go.Proofs.YtdgejkiackeieaaDoor.Wr
open Go.RowKit Go.Proofs.YtdgejkiackeieaaDoor Go.Proofs.YtdgejkiackeieaaDoor.PWr Go.Proofs.YtdgejkiackeieaaDoorW.PrintWords Go.Proofs.YtdgejkiackeieaaDoorW.PrintMore Go.Proofs.YtdgejkiackeieaaDoorW.PrintLast
/-- Reading a number that is not negative. -/
def numR (l : List UInt8) : Option (Int × List UInt8) := match intR l with | some (n, r) => if n < 0 then none else some (n, r) | none => none
theorem numR_none {l : List UInt8} (h : intR l = none) : numR l = none := by unfold numR; rw [h]
theorem numR_neg {l r : List UInt8} {n : Int} (h : intR l = some (n, r)) (hn : n < 0) : numR l = none := by unfold numR; rw [h]; exact if_pos hn
theorem numR_some {l r : List UInt8} {n : Int} (h : intR l = some (n, r)) (hn : ¬ n < 0) : numR l = some (n, r) := by unfold numR; rw [h]; exact if_neg hn
set_option maxRecDepth 100000 in
theorem RNum_any (g : Nat) (s : ByteArray) (bad : Bool) (w0 w : World) (hI : IsS117 w0 w g s bad) (hB : Below w0.heap.size w0 w) (hs : s.size ≤ 1000000) :
    Calls Tryd.prog 70 #[.pointer (some ⟨g, 0, none⟩)] w fun e w' => e = .returned (.int .i64 (rdr (numR s.data.toList) 0 bad).1) ∧ Lf w0 w w' g (rdr (numR s.data.toList) 0 bad).2.1 (rdr (numR s.data.toList) 0 bad).2.2 := by
  have HI := Lib.hid hI; have HB := Lib.hid hB
  clear hI hB
  cases ho : intR s.data.toList with
  | none =>
    rw [numR_none ho]
    have HO := Lib.hid ho
    clear ho
    go_enter Tryd.func70, Tryd.ntmps70
    go_wp2_with fail
    refine (RInt_any g s bad w0 w HI.out HB.out (by omega)).mono ?_
    rw [HO.out]
    rintro e w1 ⟨rfl, h1⟩
    go_wp2
    go_ret
    exact ⟨rfl, h1⟩
  | some p =>
    obtain ⟨n, r⟩ := p
    by_cases hn : n < 0
    · rw [numR_neg ho hn]
      have HO := Lib.hid ho
      clear ho
      go_enter Tryd.func70, Tryd.ntmps70
      go_wp2_with fail
      refine (RInt_any g s bad w0 w HI.out HB.out (by omega)).mono ?_
      rw [HO.out]
      rintro e w1 ⟨rfl, h1⟩
      have H1 := Lib.hid h1
      clear h1
      have hn' : (rdr (some (n, r)) 0 bad).1 < 0 := hn
      go_wp2_with (go_at_call 115; refine (fail_c w0 _ g _ _ H1.out.is H1.out.below).mono ?_; rintro e w1 ⟨rfl, h1⟩)
      go_ret
      exact ⟨rfl, H1.out.trans h1⟩
    · rw [numR_some ho hn]
      have HO := Lib.hid ho
      clear ho
      go_enter Tryd.func70, Tryd.ntmps70
      go_wp2_with fail
      refine (RInt_any g s bad w0 w HI.out HB.out (by omega)).mono ?_
      rw [HO.out]
      rintro e w1 ⟨rfl, h1⟩
      have H1 := Lib.hid h1
      clear h1
      have hn' : ¬ (rdr (some (n, r)) 0 bad).1 < 0 := Int.not_lt.2 hn
      go_wp2
      go_ret
      exact ⟨rfl, H1.out⟩
theorem RLeft_any (g : Nat) (s : ByteArray) (bad : Bool) (w0 w : World) (hI : IsS117 w0 w g s bad) (hB : Below w0.heap.size w0 w) :
    Calls Tryd.prog 82 #[.pointer (some ⟨g, 0, none⟩)] w fun e w' => e = .returned (.int .i64 s.size) ∧ w' = w := by
  have hcz0 := cellS117_0 hI.1
  have HI := Lib.hid hI
  clear hI hB
  go_enter Tryd.func82, Tryd.ntmps82
  go_wp2
  go_ret
  exact ⟨rfl, rfl⟩
theorem RDone_any (g : Nat) (s : ByteArray) (bad : Bool) (w0 w : World) (hI : IsS117 w0 w g s bad) (hB : Below w0.heap.size w0 w) :
    Calls Tryd.prog 84 #[.pointer (some ⟨g, 0, none⟩)] w fun e w' => e = .returned (.bool (!bad && (s.toList == ([] : List UInt8)))) ∧ w' = w := by
  have hcz0 := cellS117_0 hI.1
  have hcz1 := cellS117_1 hI.1
  have HI := Lib.hid hI
  clear hI hB
  cases bad with
  | true =>
    go_enter Tryd.func84, Tryd.ntmps84
    go_wp2
    go_ret
    exact ⟨rfl, rfl⟩
  | false =>
    go_enter Tryd.func84, Tryd.ntmps84
    go_wp2
    go_ret
    exact ⟨by simp, rfl⟩
theorem ROpen_any (s : ByteArray) (w0 w : World) (hB : Below w0.heap.size w0 w) :
    Calls Tryd.prog 68 #[.string s] w fun e w' => e = .returned (.pointer (some ⟨w.heap.size, 0, none⟩)) ∧ IsS117 w0 w' w.heap.size s false ∧ Below w0.heap.size w0 w' ∧ Below w.heap.size w w' := by
  go_enter Tryd.func68, Tryd.ntmps68
  go_wp2
  go_ret
  exact ⟨rfl, IsS117.new w0 w s false hB, hB.alloc hB.size _, (Below.refl _ w).alloc (Nat.le_refl _) _⟩
end Go.Proofs.YtdgejkiackeieaaDoor.Wr
end
section
set_option linter.unusedVariables false
set_option linter.unusedSimpArgs false
/- The fixed example of layer 2's laws, and wire.Num. -/
set_option linter.unusedVariables false
set_option linter.unusedSimpArgs false
namespace Go.Proofs.YtdgejkiackeieaaDoor.Wr
open Go.RowKit Go.Proofs.YtdgejkiackeieaaDoor Go.Proofs.YtdgejkiackeieaaDoor.PWr Go.Proofs.YtdgejkiackeieaaDoorW.PrintWords Go.Proofs.YtdgejkiackeieaaDoorW.PrintMore Go.Proofs.YtdgejkiackeieaaDoorW.PrintLast
/-- The encoding of a number: nothing for a negative one. -/
def numB (n : Int) : List UInt8 := if n < 0 then [] else intB n
set_option maxRecDepth 100000 in
theorem Num_any (n : Int) (w : World) (h : InR n) : Calls Tryd.prog 50 #[.int .i64 n] w fun e w' => e = .returned (.string (mkB (numB n))) ∧ Below w.heap.size w w' := by
  by_cases hn : n < 0
  · unfold numB
    rw [if_pos hn]
    go_enter Tryd.func50, Tryd.ntmps50
    go_wp2
    go_ret
    exact ⟨rfl, Below.refl _ _⟩
  · unfold numB
    rw [if_neg hn]
    have H := Lib.hid h
    clear h
    go_enter Tryd.func50, Tryd.ntmps50
    go_wp2_with fail
    refine (Int_any n w H.out).mono ?_
    rintro e w1 ⟨rfl, h1⟩
    go_wp2
    go_ret
    exact ⟨rfl, h1⟩
theorem refNum_w (n : Int) (w : World) (h : InR n) : Calls Tryd.prog 51 #[.int .i64 n] w fun e w' => e = .returned (.string (mkB (numB n))) ∧ Below w.heap.size w w' := by
  refine bourneref02_Num.calls 20 n _ w ?_
  unfold bourneref02_Num.f numB
  by_cases hn : n < 0
  · rw [if_pos hn, if_pos hn]
  · rw [if_neg hn, if_neg hn, ref_Int_eq n h 0, Option.bind_some]
theorem nil_beq (l : List UInt8) : ((mkB l).toList == ([] : List UInt8)) = decide (l = []) := by
  rw [ByteArray.toList_eq, mkB_list]
  cases l <;> rfl
set_option maxRecDepth 100000 in
theorem small_any (w : World) (hM : MaxW w) : Calls Tryd.prog 47 #[] w fun e w' => e = .returned (.bool true) ∧ Below w.heap.size w w' := by
  have HM := Lib.hid hM
  clear hM
  have e1 : rdr (numR (⟨#[129, 5, 126, 97, 0, 1]⟩ : ByteArray).data.toList) (0 : Int) false = (5, mkB [126, 97, 0, 1], false) := by rfl
  have e2 : rdr (intR (⟨#[127]⟩ : ByteArray).data.toList) (0 : Int) false = (-1, mkB [], false) := by rfl
  have E1 := Lib.hid e1; have E2 := Lib.hid e2
  clear e1 e2
  go_enter Tryd.func47, Tryd.ntmps47
  go_wp2_with fail
  refine (ROpen_any ⟨#[129, 5, 126, 97, 0, 1]⟩ w w (Below.refl _ _)).mono ?_
  rintro e w1 ⟨rfl, i1, b1, _⟩
  have I1 := Lib.hid i1; have B1 := Lib.hid b1
  clear i1 b1
  go_wp2_with fail
  refine (RNum_any _ _ _ w w1 I1.out B1.out (by decide)).mono ?_
  rw [E1.out]
  rintro e w2 ⟨rfl, i2⟩
  have I2 := Lib.hid i2
  clear i2
  go_wp2_with fail
  refine (ROpen_any ⟨#[127]⟩ w w2 I2.out.below).mono ?_
  rintro e w3 ⟨rfl, i3, b3, _⟩
  have I3 := Lib.hid i3; have B3 := Lib.hid b3
  clear i3 b3
  go_wp2_with fail
  refine (RInt_any _ _ _ w w3 I3.out B3.out (by decide)).mono ?_
  rw [E2.out]
  rintro e w4 ⟨rfl, i4⟩
  have I4 := Lib.hid i4
  clear i4
  go_wp2_with fail
  refine (RDone_any _ _ _ w w4 I4.out.is I4.out.below).mono ?_
  rw [show (!false && ((mkB []).toList == ([] : List UInt8))) = true by rw [nil_beq]; rfl]
  rintro e w5 ⟨rfl, rfl⟩
  go_wp2_with fail
  refine (Num_any 256 _ ⟨by decide, by decide⟩).mono ?_
  rintro e w6 ⟨rfl, b6⟩
  rw [show mkB (numB 256) = (⟨#[130, 1, 0]⟩ : ByteArray) from rfl]
  have B6 := Lib.hid (I4.out.below.trans (b6.mono I4.out.below.size))
  clear b6
  go_wp2_with fail
  refine (Int_any (-2) _ ⟨by decide, by decide⟩).mono ?_
  rintro e w7 ⟨rfl, b7⟩
  rw [show mkB (intB (-2)) = (⟨#[126, 254]⟩ : ByteArray) from rfl]
  have B7 := Lib.hid (B6.out.trans (b7.mono B6.out.size))
  clear b7
  go_wp2_with fail
  refine (Text_any ⟨#[97]⟩ _ (HM.out.below B7.out) (by decide)).mono ?_
  rintro e w8 ⟨rfl, b8⟩
  rw [show mkB (textB (⟨#[97]⟩ : ByteArray).data.toList) = (⟨#[97, 0, 1]⟩ : ByteArray) from rfl]
  have B8 := Lib.hid (B7.out.trans (b8.mono B7.out.size))
  clear b8
  go_wp2_with fail
  refine (Num_any (-1) _ ⟨by decide, by decide⟩).mono ?_
  rintro e w9 ⟨rfl, b9⟩
  rw [show mkB (numB (-1)) = (⟨#[]⟩ : ByteArray) from rfl]
  have B9 := Lib.hid (B8.out.trans (b9.mono B8.out.size))
  clear b9
  go_wp2
  go_ret
  exact ⟨rfl, B9.out⟩
end Go.Proofs.YtdgejkiackeieaaDoor.Wr
end
section
set_option linter.unusedVariables false
set_option linter.unusedSimpArgs false
/- Layer 24: the numbers of a telegram. -/
set_option linter.unusedVariables false
set_option linter.unusedSimpArgs false
namespace Go.Proofs.YtdgejkiackeieaaDoor.Gm
open Go.RowKit Go.Proofs.YtdgejkiackeieaaDoor Go.Proofs.YtdgejkiackeieaaDoor.Wr Go.Proofs.YtdgejkiackeieaaDoorW.PrintWords Go.Proofs.YtdgejkiackeieaaDoorW.PrintMore Go.Proofs.YtdgejkiackeieaaDoorW.PrintLast
attribute [local go_sem] max2_int min2_int
/-- The limits of the numbers, as the program lays them. -/
structure LimW (w : World) : Prop where mk ::
  (high : ∃ u fr, w.heap[2]? = some (.cells #[.int .i64 127, .int .i64 1099511627776, .int .i64 1006633019, .int .i64 1099511627776] u fr))
  (low : ∃ u fr, w.heap[3]? = some (.cells #[.int .i64 0, .int .i64 0, .int .i64 0, .int .i64 (-1099511627776)] u fr))
theorem LimW.below {w w' : World} {B : Nat} (h : LimW w) (hb : Below B w w') (hB : 4 ≤ B) (h4 : 4 ≤ w.heap.size) : LimW w' := by
  obtain ⟨⟨u1, f1, h1⟩, ⟨u2, f2, h2⟩⟩ := h
  exact ⟨⟨u1, f1, (hb.block 2 (by omega)).trans h1⟩, ⟨u2, f2, (hb.block 3 (by omega)).trans h2⟩⟩
end Go.Proofs.YtdgejkiackeieaaDoor.Gm
end
section
set_option linter.unusedVariables false
set_option linter.unusedSimpArgs false
/- How the arguments of the laws are opened: a telegram, slices of telegrams, of values, of strings. -/
set_option linter.unusedVariables false
set_option linter.unusedSimpArgs false
namespace Go.Proofs.YtdgejkiackeieaaDoor
open Go.RowKit Go.ChangeShapes Go.WideShapes Go.Proofs.YtdgejkiackeieaaDoor.Wr Go.Proofs.YtdgejkiackeieaaDoorW.PrintWords
theorem i64_of_wf {x : Int} (h : (Lit.int .i64 x).wf = true) : InR x := by
  have : -9223372036854775808 ≤ x ∧ x ≤ 9223372036854775807 := by simpa [Lit.wf, IntKind.min, IntKind.max, IntKind.signed, IntKind.bits] using h
  exact this
theorem five_of {α : Type} {cs : List α} {v0 v1 v2 v3 v4 : α} (hl : cs.length = 5) (h0 : (cs.drop 0).take 1 = [v0]) (h1 : (cs.drop 1).take 1 = [v1]) (h2 : (cs.drop 2).take 1 = [v2]) (h3 : (cs.drop 3).take 1 = [v3]) (h4 : (cs.drop 4).take 1 = [v4]) : cs = [v0, v1, v2, v3, v4] := by
  match cs, hl with
  | [c0, c1, c2, c3, c4], _ => simp at h0 h1 h2 h3 h4; simp [h0, h1, h2, h3, h4]
theorem c3 : Tryd.prog.cellsOf 3 = 1 := by kernel_rfl
theorem c9 : Tryd.prog.cellsOf 9 = 1 := by kernel_rfl
theorem c40 : Tryd.prog.cellsOf 40 = 1 := by kernel_rfl
theorem c48 : Tryd.prog.cellsOf 48 = 1 := by kernel_rfl
theorem c50 : Tryd.prog.cellsOf 50 = 5 := by kernel_rfl
section
variable {H : Type} {enc : TypeId × Value → H} {W : World}
/-- A telegram. -/
structure G5 where
  a : Int
  b : Int
  c : Int
  d : Int
  t : ByteArray
def G5.arr (g : G5) : Array Value := #[.int .i64 g.a, .int .i64 g.b, .int .i64 g.c, .int .i64 g.d, .string g.t]
def G5.ok (g : G5) : Prop := InR g.a ∧ InR g.b ∧ InR g.c ∧ InR g.d
/-- A slice of structs of five cells, as its elements' cells say. -/
def Reads5 {α : Type} (R : World → α → List Value → Prop) (w : World) (A : Option Addr) (l : List α) : Prop :=
  ∀ (i : Nat) (h : i < l.length), ∃ ad cs, A = some ad ∧ R w l[i] cs ∧ cs.length = 5 ∧ ∀ j, j < 5 → w.cell? (ad.add (i * 5 + j)) = cs[j]?
theorem Reads5.below {α : Type} {R : World → α → List Value → Prop} {w w' : World} {A : Option Addr} {l : List α} (h : Reads5 R w A l) (hR : ∀ x cs, R w x cs → R w' x cs) (hb : Below w.heap.size w w') : Reads5 R w' A l := by
  intro i hi
  obtain ⟨ad, cs, e, hr, hl, hc⟩ := h i hi
  refine ⟨ad, cs, e, hR _ _ hr, hl, fun j hj => ?_⟩
  have := hc j hj
  rw [List.getElem?_eq_getElem (by omega)] at this ⊢
  exact pw_cell_below hb this
theorem open_fives {α : Type} {R : World → α → List Value → Prop} {t e : TypeId} {fuel : Nat} {a : Option Addr} {len cap : Nat} {x : DataW H × List MemPlace} (ht : Tryd.prog.underlying t = some (.slice e)) (hC : Tryd.prog.cellsOf e = 5)
    (hR : ∀ (n : Nat) (cs : List Value) (y : DataW H × List MemPlace), DataW.trod enc Tryd.prog W 0 (fun _ => true) true n e cs = some y → ∃ g : α, R W g cs)
    (h : DataW.trod enc Tryd.prog W 0 (fun _ => true) true fuel t [.slice a len cap] = some x) : ∃ l : List α, len = l.length ∧ l.length ≤ cap ∧ cap ≤ maxLen ∧ Reads5 R W a l := by
  rcases Go.Deep.open_slice ht h with ⟨hcs, _⟩ | ⟨ad, len', cap', m, n, D, Pl, hcs, _, hl, hm, hmm, _, hi⟩
  · simp at hcs
    obtain ⟨rfl, rfl, rfl⟩ := hcs
    exact ⟨[], rfl, Nat.le_refl _, Nat.zero_le _, fun i hi => absurd hi (Nat.not_lt_zero _)⟩
  · simp at hcs
    obtain ⟨rfl, rfl, rfl⟩ := hcs
    have hmc : m = cap := hmm
    have key : ∀ k, k ≤ len → ∃ l : List α, l.length = k ∧ Reads5 R W (some ad) l := by
      intro k
      induction k with
      | zero => intro _; exact ⟨[], rfl, fun i hi => absurd hi (Nat.not_lt_zero _)⟩
      | succ k ih =>
        intro hk
        obtain ⟨l, e1, hr⟩ := ih (by omega)
        obtain ⟨cs', hc, htr⟩ := hi k (by omega)
        obtain ⟨g, hg⟩ := hR _ _ _ htr
        rw [hC] at hc
        obtain ⟨_, hcl, hat⟩ := World.cells?_some hc
        refine ⟨l ++ [g], by simp [e1], fun i hi' => ?_⟩
        rw [List.length_append, List.length_singleton] at hi'
        by_cases hik : i < l.length
        · obtain ⟨ad', cs, ea, hr', hl', hc'⟩ := hr i hik
          exact ⟨ad', cs, ea, by rw [List.getElem_append_left hik]; exact hr', hl', hc'⟩
        · obtain rfl : i = k := by omega
          refine ⟨ad, cs', rfl, ?_, hcl, fun j hj => ?_⟩
          · rw [List.getElem_append_right (by omega)]
            simpa [e1] using hg
          · rw [← Go.Deep.add_add]; exact hat j hj
    obtain ⟨l, e1, hr⟩ := key len (Nat.le_refl _)
    exact ⟨l, e1.symm, by omega, hm, hr⟩
/-! ### numbers and strings in a slice's cell -/
theorem open_nums {t e : TypeId} {k : IntKind} {a : Option Addr} {len cap fuel : Nat} {x : DataW H × List MemPlace} (ht : Tryd.prog.underlying t = some (.slice e)) (he : Tryd.prog.underlying e = some (.int k)) (hc : Tryd.prog.cellsOf e = 1)
    (h : DataW.trod enc Tryd.prog W 0 (fun _ => true) true fuel t [.slice a len cap] = some x) : ∃ l : List Int, len = l.length ∧ Kd.C (Kd.int k) W a l.length l ∧ (∀ x ∈ l, (Lit.int k x).wf = true) ∧ l.length ≤ cap := by
  obtain ⟨z, w⟩ := isrow_of (d := x.1) (p := x.2) ht he hc ⟨fuel, h⟩
  obtain ⟨l, rfl, hr, hm, hw, hc⟩ := ReadsInt.ofRowC w
  exact ⟨l, rfl, Kd.C_of_reads (d := (0 : Int)) (h1 := fun _ => rfl) hr, hw, hc⟩
theorem open_texts {a : Option Addr} {len cap fuel : Nat} {x : DataW H × List MemPlace}
    (h : DataW.trod enc Tryd.prog W 0 (fun _ => true) true fuel 40 [.slice a len cap] = some x) : ∃ l : List ByteArray, len = l.length ∧ Kd.C Kd.string W a l.length l ∧ l.length ≤ cap ∧ cap ≤ maxLen := by
  rcases open_strings Tryd.underlying40 Tryd.underlying9 c9 h with ⟨hcs, _⟩ | ⟨ad, l, c, ss, hcs, _, hl, hm, hz, _, hcell, _⟩
  · simp at hcs
    obtain ⟨rfl, rfl, rfl⟩ := hcs
    exact ⟨[], rfl, Kd.C_of_reads (enc := Value.string) (d := ByteArray.empty) (h1 := fun _ => rfl) ⟨rfl, Nat.zero_le _, fun h => absurd h (Nat.lt_irrefl 0)⟩, Nat.le_refl _, Nat.zero_le _⟩
  · simp at hcs
    obtain ⟨rfl, rfl, rfl⟩ := hcs
    have hz' : ss.length = cap := hz
    unfold maxLen at hm
    have e1 : (ss.take len).length = len := by rw [List.length_take]; omega
    refine ⟨ss.take len, e1.symm, ?_, by rw [e1]; exact hl, hm⟩
    refine Kd.C_of_reads (enc := Value.string) (d := ByteArray.empty) (h1 := fun _ => rfl) ⟨rfl, by rw [e1]; omega, fun h => ⟨ad, rfl, fun j hj => ?_⟩⟩
    rw [e1] at hj
    have := hcell j (by omega)
    rw [this]
    congr 2
    rw [List.getD_eq_getElem?_getD, List.getD_eq_getElem?_getD, List.getElem?_take_of_lt hj]
/-- A value of layer 2's laws. -/
structure V5 where
  k : Int
  n : Int
  s : ByteArray
  la : Option Addr
  lc : Nat
  l : List Int
  ta : Option Addr
  tc : Nat
  t : List ByteArray
def V5.arr (v : V5) : Array Value := #[.int .i64 v.k, .int .i64 v.n, .string v.s, .slice v.la v.l.length v.lc, .slice v.ta v.t.length v.tc]
structure V5.ok (w : World) (v : V5) : Prop where
  ik : InR v.k
  im : InR v.n
  cl : Kd.C (Kd.int .i64) w v.la v.l.length v.l
  il : ∀ x ∈ v.l, InR x
  ll : v.l.length ≤ v.lc
  ct : Kd.C Kd.string w v.ta v.t.length v.t
  lt : v.t.length ≤ v.tc
def RV (w : World) (v : V5) (cs : List Value) : Prop := cs = v.arr.toList ∧ v.ok w
theorem V5.ok.below {w w' : World} {v : V5} (h : v.ok w) (hb : Below w.heap.size w w') : v.ok w' := ⟨h.ik, h.im, Kd.C_below h.cl hb, h.il, h.ll, Kd.C_below h.ct hb, h.lt⟩
theorem value_cells {fuel : Nat} {cs : List Value} {x : DataW H × List MemPlace} (h : DataW.trod enc Tryd.prog W 0 (fun _ => true) true fuel 50 cs = some x) : ∃ v : V5, RV W v cs := by
  obtain ⟨xs, n, _, hx, hl, hlen, hg⟩ := DataW.trod_struct Tryd.underlying50 h
  have hlen' : xs.length = 5 := hlen
  have g0 : DataW.trod enc Tryd.prog W 0 (fun _ => true) true n 3 ((cs.drop 0).take (Tryd.prog.cellsOf 3)) = xs[0]? := hg 0 _ rfl
  have g1 : DataW.trod enc Tryd.prog W 0 (fun _ => true) true n 3 ((cs.drop 1).take (Tryd.prog.cellsOf 3)) = xs[1]? := hg 1 _ rfl
  have g2 : DataW.trod enc Tryd.prog W 0 (fun _ => true) true n 9 ((cs.drop 2).take (Tryd.prog.cellsOf 9)) = xs[2]? := hg 2 _ rfl
  have g3 : DataW.trod enc Tryd.prog W 0 (fun _ => true) true n 48 ((cs.drop 3).take (Tryd.prog.cellsOf 48)) = xs[3]? := hg 3 _ rfl
  have g4 : DataW.trod enc Tryd.prog W 0 (fun _ => true) true n 40 ((cs.drop 4).take (Tryd.prog.cellsOf 40)) = xs[4]? := hg 4 _ rfl
  rw [c3, List.getElem?_eq_getElem (by omega)] at g0 g1
  rw [c9, List.getElem?_eq_getElem (by omega)] at g2
  rw [c48, List.getElem?_eq_getElem (by omega)] at g3
  rw [c40, List.getElem?_eq_getElem (by omega)] at g4
  obtain ⟨a, e0, _, f0⟩ := DataW.trod_int Tryd.underlying3 g0
  obtain ⟨b, e1, _, f1⟩ := DataW.trod_int Tryd.underlying3 g1
  obtain ⟨c, e2, _, f2⟩ := DataW.trod_string Tryd.underlying9 g2
  obtain ⟨A3, l3, c3', e3⟩ : ∃ a l c, (cs.drop 3).take 1 = [Value.slice a l c] := by
    rcases Go.Deep.open_slice Tryd.underlying48 g3 with ⟨hcs, _⟩ | ⟨a', len', cap', m, n, D, Pl, hcs, _⟩
    · exact ⟨_, _, _, hcs⟩
    · exact ⟨_, _, _, hcs⟩
  obtain ⟨A4, l4, c4', e4⟩ : ∃ a l c, (cs.drop 4).take 1 = [Value.slice a l c] := by
    rcases Go.Deep.open_slice Tryd.underlying40 g4 with ⟨hcs, _⟩ | ⟨a', len', cap', m, n, D, Pl, hcs, _⟩
    · exact ⟨_, _, _, hcs⟩
    · exact ⟨_, _, _, hcs⟩
  rw [e3] at g3
  rw [e4] at g4
  obtain ⟨L, rfl, k1, k2, k3⟩ := open_nums Tryd.underlying48 Tryd.underlying3 c3 g3
  obtain ⟨T, rfl, m1, m2, m3⟩ := open_texts g4
  exact ⟨⟨a, b, c, A3, c3', L, A4, c4', T⟩, five_of (hl.trans c50) e0 e1 e2 e3 e4, i64_of_wf f0, i64_of_wf f1, k1, fun x hx => i64_of_wf (k2 x hx), k3, m1, m2⟩
theorem open_values {a : Option Addr} {len cap : Nat} {d : DataW H} {p : List MemPlace} (h : DataW.Trod enc Tryd.prog W 0 (fun _ => true) true 46 (.slice a len cap) d p) : ∃ l : List V5, len = l.length ∧ l.length ≤ cap ∧ cap ≤ maxLen ∧ Reads5 RV W a l := by
  obtain ⟨fuel, hf⟩ := h
  exact open_fives (R := RV) Tryd.underlying46 c50 (fun n cs y hy => value_cells hy) hf
end
/-! ### the limits of a telegram's numbers -/
end Go.Proofs.YtdgejkiackeieaaDoor
end
section
set_option linter.unusedVariables false
set_option linter.unusedSimpArgs false
/- The order of the encodings of layer 2: two encodings of one kind differ at a byte, and there as their values do. No program in sight. -/
set_option linter.unusedVariables false
set_option linter.unusedSimpArgs false
namespace Go.Proofs.YtdgejkiackeieaaDoor.Wr
/-- Two strings differ at a byte: -1 if the first one's is less, 1 if it is greater. -/
def Diff (c : Int) (s t : List UInt8) : Prop := ∃ p a b s' t', s = p ++ a :: s' ∧ t = p ++ b :: t' ∧ ((a < b ∧ c = -1) ∨ (b < a ∧ c = 1))
theorem Diff.app {c : Int} {s t : List UInt8} (h : Diff c s t) (u v : List UInt8) : Diff c (s ++ u) (t ++ v) := by
  obtain ⟨p, a, b, s', t', rfl, rfl, hc⟩ := h
  exact ⟨p, a, b, s' ++ u, t' ++ v, by simp, by simp, hc⟩
theorem Diff.pre {c : Int} {s t : List UInt8} (h : Diff c s t) (q : List UInt8) : Diff c (q ++ s) (q ++ t) := by
  obtain ⟨p, a, b, s', t', rfl, rfl, hc⟩ := h
  exact ⟨q ++ p, a, b, s', t', by simp, by simp, hc⟩
theorem Diff.cons {c : Int} {s t : List UInt8} (h : Diff c s t) (x : UInt8) : Diff c (x :: s) (x :: t) := h.pre [x]
theorem Diff.swap {c : Int} {s t : List UInt8} (h : Diff c s t) : Diff (-c) t s := by
  obtain ⟨p, a, b, s', t', rfl, rfl, hc⟩ := h
  refine ⟨p, b, a, t', s', rfl, rfl, ?_⟩
  rcases hc with ⟨h1, h2⟩ | ⟨h1, h2⟩
  · right; exact ⟨h1, by omega⟩
  · left; exact ⟨h1, by omega⟩
theorem Diff.here {a b : UInt8} (h : a < b) (s t : List UInt8) : Diff (-1) (a :: s) (b :: t) := ⟨[], a, b, s, t, rfl, rfl, .inl ⟨h, rfl⟩⟩
theorem u8_lt_irrefl (a : UInt8) : ¬ a < a := by rw [UInt8.lt_iff_toNat_lt]; omega
theorem u8_lt_asymm {a b : UInt8} (h : a < b) : ¬ b < a := by rw [UInt8.lt_iff_toNat_lt] at *; omega
theorem u8_lt_ne {a b : UInt8} (h : a < b) : a ≠ b := by rintro rfl; exact u8_lt_irrefl a h
theorem Diff.prefix {c : Int} {s t : List UInt8} (h : Diff c s t) : ¬ s <+: t := by
  obtain ⟨p, a, b, s', t', rfl, rfl, hc⟩ := h
  rw [List.prefix_append_right_inj, List.cons_prefix_cons]
  rintro ⟨rfl, _⟩
  rcases hc with ⟨h, _⟩ | ⟨h, _⟩ <;> exact u8_lt_irrefl _ h
theorem Diff.ne {c : Int} {s t : List UInt8} (h : Diff c s t) : s ≠ t := by rintro rfl; exact h.prefix (List.prefix_refl _)
theorem less_pre (p s t : List UInt8) : Op.bytesLess (p ++ s) (p ++ t) = Op.bytesLess s t := by
  induction p with
  | nil => rfl
  | cons a p ih => simp only [List.cons_append, Op.bytesLess, ih]; simp [u8_lt_irrefl]
theorem Diff.less {c : Int} {s t : List UInt8} (h : Diff c s t) : Op.bytesLess s t = decide (c = -1) := by
  obtain ⟨p, a, b, s', t', rfl, rfl, hc⟩ := h
  rw [less_pre]
  rcases hc with ⟨h, rfl⟩ | ⟨h, rfl⟩
  · simp [Op.bytesLess, h]
  · have h1 := u8_lt_asymm h
    have h2 : a ≠ b := fun e => u8_lt_irrefl b (e ▸ h)
    simp [Op.bytesLess, h1, h2]
theorem Diff.val {c : Int} {s t : List UInt8} (h : Diff c s t) : c = -1 ∨ c = 1 := by
  obtain ⟨_, _, _, _, _, _, _, hc⟩ := h
  rcases hc with ⟨_, h⟩ | ⟨_, h⟩
  · exact .inl h
  · exact .inr h
theorem less_irrefl (s : List UInt8) : Op.bytesLess s s = false := by
  induction s with
  | nil => rfl
  | cons a s ih => simp [Op.bytesLess, ih, u8_lt_irrefl]
/-- Comparing two strings: -1, 0 or 1. -/
def cmpL : List UInt8 → List UInt8 → Int
  | [], [] => 0
  | [], _ :: _ => -1
  | _ :: _, [] => 1
  | a :: x, b :: y => if a < b then -1 else if b < a then 1 else cmpL x y
theorem u8_eq_of {a b : UInt8} (h1 : ¬ a < b) (h2 : ¬ b < a) : a = b := by
  rw [UInt8.lt_iff_toNat_lt] at h1 h2
  exact UInt8.toNat_inj.1 (by omega)
theorem cmpL_spec (x : List UInt8) : ∀ y, (cmpL x y = 0 ↔ x = y) ∧ Op.bytesLess x y = decide (cmpL x y = -1) ∧ (cmpL x y = -1 ∨ cmpL x y = 0 ∨ cmpL x y = 1) := by
  induction x with
  | nil => intro y; cases y <;> simp [cmpL, Op.bytesLess]
  | cons a x ih =>
    intro y
    cases y with
    | nil => simp [cmpL, Op.bytesLess]
    | cons b y =>
      by_cases h1 : a < b
      · simp [cmpL, Op.bytesLess, h1, u8_lt_ne h1]
      · by_cases h2 : b < a
        · simp [cmpL, Op.bytesLess, h1, h2, (u8_lt_ne h2).symm]
        · obtain rfl := u8_eq_of h1 h2
          obtain ⟨i1, i2, i3⟩ := ih y
          refine ⟨?_, ?_, ?_⟩
          · simp [cmpL, h1, i1]
          · simp [cmpL, Op.bytesLess, h1, i2]
          · simpa [cmpL, h1] using i3
/-! ### integers -/
theorem beR_diff (k : Nat) : ∀ a b : Nat, a < 256 ^ k → b < 256 ^ k → a < b → Diff (-1) (beR k a) (beR k b) := by
  induction k with
  | zero => intro a b ha hb h; simp at ha hb; omega
  | succ k ih =>
    intro a b ha hb h
    rw [beR_snoc, beR_snoc]
    by_cases he : a / 256 = b / 256
    · rw [he]
      refine Diff.pre (Diff.here ?_ _ _) _
      rw [UInt8.lt_iff_toNat_lt]
      have h1 : a % 256 < 256 := Nat.mod_lt _ (by decide)
      have h2 : b % 256 < 256 := Nat.mod_lt _ (by decide)
      simp only [UInt8.toNat_ofNat', Nat.reducePow, Nat.mod_mod]
      omega
    · refine Diff.app (ih _ _ ?_ ?_ (by omega)) _ _
      · rw [Nat.pow_succ] at ha; omega
      · rw [Nat.pow_succ] at hb; omega
theorem inv_lt {a b : UInt8} (h : a < b) : inv b < inv a := by
  rw [UInt8.lt_iff_toNat_lt] at *
  rw [inv_toNat, inv_toNat]
  have := b.toNat_lt
  omega
theorem diff_inv {c : Int} {s t : List UInt8} (h : Diff c s t) : Diff (-c) (s.map inv) (t.map inv) := by
  obtain ⟨p, a, b, s', t', rfl, rfl, hc⟩ := h
  refine ⟨p.map inv, inv a, inv b, s'.map inv, t'.map inv, by simp, by simp, ?_⟩
  rcases hc with ⟨h1, h2⟩ | ⟨h1, h2⟩
  · right; exact ⟨inv_lt h1, by omega⟩
  · left; exact ⟨inv_lt h1, by omega⟩
theorem ofNat_lt {a b : Nat} (h : a < b) (hb : b < 256) : UInt8.ofNat a < UInt8.ofNat b := by
  rw [UInt8.lt_iff_toNat_lt]
  simp only [UInt8.toNat_ofNat', Nat.reducePow]
  omega
theorem int_pos_diff (a b : Nat) (h : a < b) (hb : b < 9223372036854775808) : Diff (-1) (intB (a : Int)) (intB (b : Int)) := by
  rw [intB_pos, intB_pos]
  have hb8 := pow8 hb
  have ha8 : a < 256 ^ 8 := Nat.lt_trans h hb8
  have hm := mlen_mono (Nat.le_of_lt h) hb8
  by_cases he : mlen a = mlen b
  · rw [he]
    refine Diff.cons (beR_diff _ _ _ ?_ (mlen_lt hb8) h) _
    have := mlen_lt ha8; rw [he] at this; exact this
  · have := mlen_le8 hb8
    exact Diff.here (ofNat_lt (by omega) (by omega)) _ _
theorem int_neg_diff (a b : Nat) (h : a < b) (hb : b < 9223372036854775808) : Diff (-1) (intB (-1 - (b : Int))) (intB (-1 - (a : Int))) := by
  rw [intB_neg, intB_neg]
  have hb8 := pow8 hb
  have ha8 : a < 256 ^ 8 := Nat.lt_trans h hb8
  have hm := mlen_mono (Nat.le_of_lt h) hb8
  by_cases he : mlen a = mlen b
  · rw [he]
    refine Diff.cons ?_ _
    have h1 := diff_inv (beR_diff (mlen b) a b (by have := mlen_lt ha8; rw [he] at this; exact this) (mlen_lt hb8) h)
    exact h1.swap
  · have := mlen_le8 hb8
    exact Diff.here (ofNat_lt (by omega) (by omega)) _ _
theorem int_diff {a b : Int} (ha : InR a) (hb : InR b) (h : a < b) : Diff (-1) (intB a) (intB b) := by
  unfold InR at ha hb
  by_cases h0 : 0 ≤ a
  · obtain ⟨m, rfl⟩ := Int.eq_ofNat_of_zero_le h0
    obtain ⟨n, rfl⟩ := Int.eq_ofNat_of_zero_le (show 0 ≤ b by omega)
    exact int_pos_diff m n (by omega) (by omega)
  · obtain ⟨m, hm⟩ := Int.eq_ofNat_of_zero_le (show 0 ≤ -1 - a by omega)
    obtain rfl : a = -1 - (m : Int) := by omega
    by_cases h1 : 0 ≤ b
    · obtain ⟨n, rfl⟩ := Int.eq_ofNat_of_zero_le h1
      rw [intB_pos, intB_neg]
      have := mlen_le8 (pow8 (show n < 9223372036854775808 by omega))
      exact Diff.here (ofNat_lt (by omega) (by omega)) _ _
    · obtain ⟨n, hn⟩ := Int.eq_ofNat_of_zero_le (show 0 ≤ -1 - b by omega)
      obtain rfl : b = -1 - (n : Int) := by omega
      exact int_neg_diff n m (by omega) (by omega)
/-- Comparing two numbers. -/
def cmpI (a b : Int) : Int := if a < b then -1 else if b < a then 1 else 0
theorem cmpI_zero {a b : Int} : cmpI a b = 0 ↔ a = b := by unfold cmpI; split <;> (try split) <;> omega
theorem cmpI_diff {a b : Int} (ha : InR a) (hb : InR b) (h : cmpI a b ≠ 0) : Diff (cmpI a b) (intB a) (intB b) := by
  unfold cmpI at h ⊢
  by_cases h1 : a < b
  · rw [if_pos h1]; exact int_diff ha hb h1
  · rw [if_neg h1] at h ⊢
    by_cases h2 : b < a
    · rw [if_pos h2]; exact (int_diff hb ha h2).swap
    · rw [if_neg h2] at h; exact absurd rfl h
/-! ### strings -/
theorem textB_cons' (c : UInt8) (l : List UInt8) : textB (c :: l) = c :: (if c = 0 then 255 :: textB l else textB l) := by
  rw [textB_cons]
  by_cases h : c = 0
  · subst h; rfl
  · rw [if_neg h, if_neg h]; rfl
theorem u8_pos {c : UInt8} (h : c ≠ 0) : (0 : UInt8) < c := by
  rw [UInt8.lt_iff_toNat_lt]
  have : c.toNat ≠ 0 := fun e => h (UInt8.toNat_inj.1 e)
  show 0 < c.toNat
  omega
theorem text_diff (x : List UInt8) : ∀ y, cmpL x y ≠ 0 → Diff (cmpL x y) (textB x) (textB y) := by
  induction x with
  | nil =>
    intro y h
    cases y with
    | nil => exact absurd rfl h
    | cons b y =>
      rw [textB_nil, textB_cons']
      show Diff (-1) _ _
      by_cases hb : b = 0
      · subst hb; rw [if_pos rfl]; exact (Diff.here (by decide) _ _).cons 0
      · rw [if_neg hb]; exact Diff.here (u8_pos hb) _ _
  | cons a x ih =>
    intro y h
    cases y with
    | nil =>
      rw [textB_nil, textB_cons']
      show Diff 1 _ _
      by_cases hb : a = 0
      · subst hb; rw [if_pos rfl]; exact (Diff.cons (Diff.here (by decide) _ _) 0).swap
      · rw [if_neg hb]; exact (Diff.here (u8_pos hb) _ _).swap
    | cons b y =>
      rw [textB_cons', textB_cons']
      by_cases h1 : a < b
      · have e : cmpL (a :: x) (b :: y) = -1 := by simp [cmpL, h1]
        rw [e]; exact Diff.here h1 _ _
      · by_cases h2 : b < a
        · have e : cmpL (a :: x) (b :: y) = 1 := by simp [cmpL, h1, h2]
          rw [e]; exact (Diff.here h2 _ _).swap
        · obtain rfl := u8_eq_of h1 h2
          have e : cmpL (a :: x) (a :: y) = cmpL x y := by simp [cmpL, h1]
          rw [e] at h ⊢
          have := ih y h
          by_cases h0 : a = 0
          · rw [if_pos h0, if_pos h0]; exact (this.cons 255).cons a
          · rw [if_neg h0, if_neg h0]; exact this.cons a
/-! ### lists -/
/-- Comparing two lists by a comparison of their elements. -/
def cmpS {α : Type} (c : α → α → Int) : List α → List α → Int
  | [], [] => 0
  | [], _ :: _ => -1
  | _ :: _, [] => 1
  | x :: xs, y :: ys => if c x y = 0 then cmpS c xs ys else c x y
theorem list_diff {α : Type} (enc : α → List UInt8) (c : α → α → Int) (P : α → Prop) (h0 : ∀ x y, P x → P y → c x y = 0 → x = y) (h1 : ∀ x y, P x → P y → c x y ≠ 0 → Diff (c x y) (enc x) (enc y)) (xs : List α) :
    ∀ ys, (∀ x ∈ xs, P x) → (∀ y ∈ ys, P y) → cmpS c xs ys ≠ 0 → Diff (cmpS c xs ys) (listB enc xs) (listB enc ys) := by
  induction xs with
  | nil =>
    intro ys _ _ h
    cases ys with
    | nil => exact absurd rfl h
    | cons y ys => rw [listB_cons]; exact Diff.here (by decide) _ _
  | cons x xs ih =>
    intro ys hx hy h
    cases ys with
    | nil => rw [listB_cons]; exact (Diff.here (by decide) _ _).swap
    | cons y ys =>
      rw [listB_cons, listB_cons]
      have hx1 := hx x (List.mem_cons_self ..); have hy1 := hy y (List.mem_cons_self ..)
      by_cases he : c x y = 0
      · have e : cmpS c (x :: xs) (y :: ys) = cmpS c xs ys := by simp [cmpS, he]
        rw [e] at h ⊢
        obtain rfl := h0 x y hx1 hy1 he
        exact ((ih ys (fun z hz => hx z (List.mem_cons_of_mem _ hz)) (fun z hz => hy z (List.mem_cons_of_mem _ hz)) h).pre _).cons 1
      · have e : cmpS c (x :: xs) (y :: ys) = c x y := by simp [cmpS, he]
        rw [e]
        exact ((h1 x y hx1 hy1 he).app _ _).cons 1
theorem cmpS_zero {α : Type} (c : α → α → Int) (P : α → Prop) (h0 : ∀ x y, P x → P y → c x y = 0 → x = y) (xs : List α) : ∀ ys, (∀ x ∈ xs, P x) → (∀ y ∈ ys, P y) → cmpS c xs ys = 0 → xs = ys := by
  induction xs with
  | nil => intro ys _ _ h; cases ys with
    | nil => rfl
    | cons y ys => simp [cmpS] at h
  | cons x xs ih =>
    intro ys hx hy h
    cases ys with
    | nil => simp [cmpS] at h
    | cons y ys =>
      by_cases he : c x y = 0
      · simp only [cmpS, if_pos he] at h
        rw [h0 x y (hx x (List.mem_cons_self ..)) (hy y (List.mem_cons_self ..)) he, ih ys (fun z hz => hx z (List.mem_cons_of_mem _ hz)) (fun z hz => hy z (List.mem_cons_of_mem _ hz)) h]
      · simp only [cmpS, if_neg he] at h; exact absurd h he
theorem nums_diff (xs ys : List Int) (hx : ∀ x ∈ xs, InR x) (hy : ∀ y ∈ ys, InR y) (h : cmpS cmpI xs ys ≠ 0) : Diff (cmpS cmpI xs ys) (numsB xs) (numsB ys) :=
  list_diff intB cmpI InR (fun _ _ _ _ h => cmpI_zero.1 h) (fun _ _ a b h => cmpI_diff a b h) xs ys hx hy h
theorem texts_diff (xs ys : List (List UInt8)) (h : cmpS cmpL xs ys ≠ 0) : Diff (cmpS cmpL xs ys) (textsB xs) (textsB ys) :=
  list_diff textB cmpL (fun _ => True) (fun x y _ _ h => (cmpL_spec x y).1.1 h) (fun x y _ _ h => text_diff x y h) xs ys (fun _ _ => trivial) (fun _ _ => trivial) h
end Go.Proofs.YtdgejkiackeieaaDoor.Wr
end
section
set_option linter.unusedVariables false
set_option linter.unusedSimpArgs false
/- The laws' own small functions of layer 2: light, write, all, text, number, compare. -/
set_option linter.unusedVariables false
set_option linter.unusedSimpArgs false
namespace Go.Proofs.YtdgejkiackeieaaDoor.Wr
open Go.RowKit Go.Proofs.YtdgejkiackeieaaDoor Go.Proofs.YtdgejkiackeieaaDoor.PWr Go.Proofs.YtdgejkiackeieaaDoorW.PrintWords Go.Proofs.YtdgejkiackeieaaDoorW.PrintMore Go.Proofs.YtdgejkiackeieaaDoorW.PrintLast
theorem number_any (a b : Int) (w : World) : Calls Tryd.prog 113 #[.int .i64 a, .int .i64 b] w fun e w' => e = .returned (.int .i64 (cmpI a b)) ∧ w' = w := by
  unfold cmpI
  by_cases h1 : a < b
  · rw [if_pos h1]
    go_enter Tryd.func113, Tryd.ntmps113
    go_wp2
    go_ret
    exact ⟨rfl, rfl⟩
  · rw [if_neg h1]
    by_cases h2 : b < a
    · rw [if_pos h2]
      go_enter Tryd.func113, Tryd.ntmps113
      go_wp2
      go_ret
      exact ⟨rfl, rfl⟩
    · rw [if_neg h2]
      go_enter Tryd.func113, Tryd.ntmps113
      go_wp2
      go_ret
      exact ⟨rfl, rfl⟩
theorem text_any (a b : ByteArray) (w : World) : Calls Tryd.prog 59 #[.string a, .string b] w fun e w' => e = .returned (.int .i64 (cmpL a.data.toList b.data.toList)) ∧ w' = w := by
  obtain ⟨s0, s1, s2⟩ := cmpL_spec a.data.toList b.data.toList
  have e1 : Op.bytesLess a.toList b.toList = decide (cmpL a.data.toList b.data.toList = -1) := by rw [ByteArray.toList_eq, ByteArray.toList_eq]; exact s1
  rcases s2 with h | h | h
  · have k1 : Op.bytesLess a.toList b.toList = true := by rw [e1, h]; rfl
    rw [h]
    clear s0 s1 e1 h
    go_enter Tryd.func59, Tryd.ntmps59
    go_wp2
    go_ret
    exact ⟨rfl, rfl⟩
  · have hab : a = b := ext_ (s0.1 h)
    subst hab
    have k1 := less_irrefl a.toList
    rw [h]
    clear s0 s1 e1 h
    go_enter Tryd.func59, Tryd.ntmps59
    go_wp2
    go_ret
    exact ⟨rfl, rfl⟩
  · have k1 : Op.bytesLess a.toList b.toList = false := by rw [e1, h]; rfl
    have k2 : ¬ a.toList = b.toList := by rw [ByteArray.toList_eq, ByteArray.toList_eq]; intro e; have := s0.2 e; omega
    have k3 : (a.toList == b.toList) = false := beq_eq_false_iff_ne.2 k2
    rw [h]
    clear s0 s1 e1 h
    go_enter Tryd.func59, Tryd.ntmps59
    go_wp2
    go_ret
    exact ⟨rfl, rfl⟩
/-- The five cells of an element, as the walk spells their places. -/
structure Cells5 (w : World) (a : Addr) (v : V5) : Prop where
  c0 : w.cell? a = some (.int .i64 v.k)
  c1 : w.cell? ⟨a.block, a.off + 1, none⟩ = some (.int .i64 v.n)
  c2 : w.cell? ⟨a.block, a.off + 2, none⟩ = some (.string v.s)
  c3 : w.cell? ⟨a.block, a.off + 3, none⟩ = some (.slice v.la v.l.length v.lc)
  c4 : w.cell? ⟨a.block, a.off + 4, none⟩ = some (.slice v.ta v.t.length v.tc)
theorem value_at {w : World} {A : Option Addr} {l : List V5} (h : Reads5 RV w A l) (k : Nat) (hk : k < l.length) : ∃ ad v, A = some ad ∧ l[k]? = some v ∧ v ∈ l ∧ v.ok w ∧ Cells5 w (ad.add (k * 5)) v := by
  obtain ⟨ad, cs, rfl, ⟨rfl, hok⟩, hcl, hcell⟩ := h k hk
  have hj : ∀ j, j < 5 → j ≠ 0 → w.cell? ⟨(ad.add (k * 5)).block, (ad.add (k * 5)).off + j, none⟩ = l[k].arr.toList[j]? := by
    intro j h1 h2
    rw [← hcell j h1, ← Go.Deep.add_add]
    generalize ad.add (k * 5) = a
    unfold Addr.add
    rw [if_neg h2]
  exact ⟨ad, l[k], rfl, List.getElem?_eq_getElem hk, List.getElem_mem hk, hok, hcell 0 (by omega), hj 1 (by omega) (by omega), hj 2 (by omega) (by omega), hj 3 (by omega) (by omega), hj 4 (by omega) (by omega)⟩
theorem take_all {α : Type} {P : α → Prop} {l : List α} {k : Nat} {v : α} (h : ∀ x ∈ l.take k, P x) (hv : l[k]? = some v) (hp : P v) : ∀ x ∈ l.take (k + 1), P x := by
  intro x hx
  rw [List.take_add_one, hv] at hx
  rcases List.mem_append.1 hx with h1 | h1
  · exact h x h1
  · have : x = v := by simpa using h1
    rw [this]; exact hp
/-- Within the laws' bounds. -/
def lightV (v : V5) : Prop := v.s.size ≤ 500 ∧ v.l.length ≤ 50 ∧ v.t.length ≤ 50 ∧ ∀ x ∈ v.t, x.size ≤ 500
def LightPost (l : List V5) (w : World) (e : Ending) (w' : World) : Prop := ∃ b, e = .returned (.bool b) ∧ (b = true → l.length ≤ 20 ∧ ∀ v ∈ l, lightV v) ∧ w' = w
theorem light_no (l : List V5) (w : World) : LightPost l w (.returned (.bool false)) w := ⟨false, rfl, (fun h => by cases h), rfl⟩
set_option maxHeartbeats 4000000 in
set_option maxRecDepth 100000 in
theorem light_any (A : Option Addr) (c : Nat) (l : List V5) (w : World) (hR : Reads5 RV w A l) (hc : l.length ≤ c) (hcm : c ≤ maxLen) : Calls Tryd.prog 48 #[.slice A l.length c] w (LightPost l w) := by
  unfold maxLen at hcm
  have HR := Lib.hid hR
  clear hR
  go_enter Tryd.func48, Tryd.ntmps48
  by_cases h20 : l.length ≤ 20
  · have i1 : ¬ (20 : Int) < (l.length : Int) := by omega
    go_wp2
    go_loop [3] (fun i => ∃ k : Nat, k ≤ l.length ∧ i = .int .i64 k ∧ Hid (∀ v ∈ l.take k, lightV v)) (fun i => l.length - (intOf i).toNat)
    case atStart => exact ⟨0, by omega, rfl, Lib.hid (by simp)⟩
    case round =>
      obtain ⟨k, hk, rfl, hall⟩ := hrel
      by_cases hlt : k < l.length
      · obtain ⟨ad, v, rfl, hv, _, hok, hcs⟩ := value_at HR.out k hlt
        have HV := Lib.hid hv; have HOK := Lib.hid hok
        have c2 := hcs.c2; have c3 := hcs.c3; have c4 := hcs.c4
        clear hcs hok hv
        by_cases h1 : v.s.size ≤ 500
        · have j1 : ¬ (500 : Int) < (v.s.size : Int) := by omega
          by_cases h2 : v.l.length ≤ 50
          · have j2 : ¬ (50 : Int) < (v.l.length : Int) := by omega
            by_cases h3 : v.t.length ≤ 50
            · have j3 : ¬ (50 : Int) < (v.t.length : Int) := by omega
              go_wp2_with fail
              go_loop [4] (fun i => ∃ j : Nat, j ≤ v.t.length ∧ i = .int .i64 j ∧ Hid (∀ x ∈ v.t.take j, x.size ≤ 500)) (fun i => v.t.length - (intOf i).toNat)
              case atStart => exact ⟨0, by omega, rfl, Lib.hid (by simp)⟩
              case round =>
                obtain ⟨j, hj, rfl, hin⟩ := hrel
                by_cases hlt2 : j < v.t.length
                · obtain ⟨ad2, e2, hx⟩ := Kd.at_string HOK.out.ct (j : Int) (by omega) (by omega)
                  rw [Int.toNat_natCast] at hx
                  rw [e2] at c4
                  obtain ⟨x, hxe⟩ : ∃ x, rdOf ByteArray.empty v.t (j : Int) = x := ⟨_, rfl⟩
                  have hxj : v.t[j]? = some x := by rw [← hxe, rdOf_nat j hlt2]; exact List.getElem?_eq_getElem hlt2
                  rw [hxe] at hx
                  have HXJ := Lib.hid hxj
                  clear e2 hxe hxj
                  by_cases h5 : x.size ≤ 500
                  · have j5 : ¬ (500 : Int) < (x.size : Int) := by omega
                    go_wp2
                    go_round
                    case rel => exact ⟨j + 1, by omega, by go_num, Lib.hid (take_all hin.out HXJ.out h5)⟩
                    case measure => simp [intOf]; omega
                  · have j5 : (500 : Int) < (x.size : Int) := by omega
                    go_wp2
                    go_ret
                    exact light_no l w
                · have hjl : j = v.t.length := by omega
                  subst hjl
                  go_wp2
                  go_round
                  case rel => exact ⟨k + 1, by omega, by go_num, Lib.hid (take_all hall.out HV.out ⟨h1, h2, h3, by have := hin.out; rwa [List.take_length] at this⟩)⟩
                  case measure => simp [intOf]; omega
            · have j3 : (50 : Int) < (v.t.length : Int) := by omega
              go_wp2
              go_ret
              exact light_no l w
          · have j2 : (50 : Int) < (v.l.length : Int) := by omega
            go_wp2
            go_ret
            exact light_no l w
        · have j1 : (500 : Int) < (v.s.size : Int) := by omega
          go_wp2
          go_ret
          exact light_no l w
      · have hkl : k = l.length := by omega
        subst hkl
        go_wp2
        go_ret
        exact ⟨true, rfl, fun _ => ⟨h20, by have := hall.out; rwa [List.take_length] at this⟩, rfl⟩
  · have i1 : (20 : Int) < (l.length : Int) := by omega
    go_wp2
    go_ret
    exact light_no l w
end Go.Proofs.YtdgejkiackeieaaDoor.Wr
end
section
set_option linter.unusedVariables false
set_option linter.unusedSimpArgs false
/- The laws' own functions of layer 2: write, all. -/
set_option linter.unusedVariables false
set_option linter.unusedSimpArgs false
namespace Go.Proofs.YtdgejkiackeieaaDoor.Wr
open Go.RowKit Go.Proofs.YtdgejkiackeieaaDoor Go.Proofs.YtdgejkiackeieaaDoor.PWr Go.Proofs.YtdgejkiackeieaaDoorW.PrintWords Go.Proofs.YtdgejkiackeieaaDoorW.PrintMore Go.Proofs.YtdgejkiackeieaaDoorW.PrintLast
/-- A value's kind. -/
def kd (k : Int) : Int := Go.bits .and .i64 k 3
/-- A value's encoding. -/
def wrB (v : V5) : List UInt8 := if kd v.k = 0 then intB v.n else if kd v.k = 1 then textB v.s.data.toList else if kd v.k = 2 then numsB v.l else textsB (lists v.t)
theorem listB_le {α : Type} (enc : α → List UInt8) (n : Nat) : ∀ l : List α, (∀ x ∈ l, (enc x).length ≤ n) → (listB enc l).length ≤ (n + 1) * l.length + 1 := by
  intro l
  induction l with
  | nil => intro _; simp [listB]
  | cons x l ih =>
    intro h
    rw [listB_cons]
    have h1 := h x (List.mem_cons_self ..)
    have h2 := ih (fun y hy => h y (List.mem_cons_of_mem _ hy))
    simp only [List.length_cons, List.length_append, Nat.mul_add]
    omega
theorem wrB_len (v : V5) (w : World) (hok : v.ok w) (hl : lightV v) : (wrB v).length ≤ 60000 := by
  obtain ⟨l1, l2, l3, l4⟩ := hl
  unfold wrB
  split
  · have := intB_length v.n hok.im; omega
  · split
    · have := (textB_length v.s.data.toList).2; rw [len_size] at this; omega
    · split
      · have := listB_le intB 9 v.l (fun x hx => intB_length x (hok.il x hx))
        unfold numsB; omega
      · have := listB_le textB 1002 (lists v.t) (fun x hx => by
          obtain ⟨y, hy, rfl⟩ := List.mem_map.1 hx
          have h1 := (textB_length y.data.toList).2
          have h2 := l4 y hy
          rw [len_size] at h1; omega)
        have e : (lists v.t).length = v.t.length := List.length_map ..
        rw [e] at this
        unfold textsB; omega
theorem lists_listB (l : List ByteArray) : listB (fun s : ByteArray => textB s.data.toList) l = textsB (lists l) := by
  unfold textsB listB lists
  rw [List.flatMap_map]
set_option maxHeartbeats 4000000 in
set_option maxRecDepth 100000 in
theorem write_any (v : V5) (w : World) (hok : v.ok w) (hl : lightV v) (hM : MaxW w) : Calls Tryd.prog 112 #[.agg #[.int .i64 v.k, .int .i64 v.n, .string v.s, .slice v.la v.l.length v.lc, .slice v.ta v.t.length v.tc]] w fun e w' => e = .returned (.string (mkB (wrB v))) ∧ Below w.heap.size w w' := by
  have HM := Lib.hid hM; have HOK := Lib.hid hok
  obtain ⟨l1, l2, l3, l4⟩ := hl
  have HL4 := Lib.hid l4
  obtain ⟨R, hR⟩ : ∃ R, mkB (wrB v) = R := ⟨_, rfl⟩
  rw [hR]
  unfold wrB at hR
  clear hM hok l4
  by_cases h0 : kd v.k = 0
  · rw [if_pos h0] at hR
    have HR := Lib.hid hR
    have k0 : (Go.bits .and .i64 v.k 3 == 0) = true := by unfold kd at h0; simpa using h0
    clear hR h0
    go_enter Tryd.func112, Tryd.ntmps112
    go_wp2_with fail
    refine (Int_any v.n _ HOK.out.im).mono ?_
    rw [HR.out]
    rintro e w1 ⟨rfl, b1⟩
    have B1 : Hid (Below w.heap.size w w1) := Lib.hid (((Below.refl _ w).alloc (Nat.le_refl _) _).trans (b1.mono (by simp)))
    clear b1
    go_wp2
    go_ret
    exact ⟨rfl, B1.out⟩
  · rw [if_neg h0] at hR
    have k0 : (Go.bits .and .i64 v.k 3 == 0) = false := by unfold kd at h0; simpa using h0
    by_cases h1 : kd v.k = 1
    · rw [if_pos h1] at hR
      have HR := Lib.hid hR
      have k1 : (Go.bits .and .i64 v.k 3 == 1) = true := by unfold kd at h1; simpa using h1
      clear hR h0 h1
      go_enter Tryd.func112, Tryd.ntmps112
      go_wp2_with fail
      refine (Text_any v.s _ (HM.out.below ((Below.refl _ w).alloc (Nat.le_refl _) _)) (by omega)).mono ?_
      rw [HR.out]
      rintro e w1 ⟨rfl, b1⟩
      have B1 : Hid (Below w.heap.size w w1) := Lib.hid (((Below.refl _ w).alloc (Nat.le_refl _) _).trans (b1.mono (by simp)))
      clear b1
      go_wp2
      go_ret
      exact ⟨rfl, B1.out⟩
    · rw [if_neg h1] at hR
      have k1 : (Go.bits .and .i64 v.k 3 == 1) = false := by unfold kd at h1; simpa using h1
      by_cases h2 : kd v.k = 2
      · rw [if_pos h2] at hR
        have HR := Lib.hid hR
        have k2 : (Go.bits .and .i64 v.k 3 == 2) = true := by unfold kd at h2; simpa using h2
        clear hR h0 h1 h2
        go_enter Tryd.func112, Tryd.ntmps112
        go_wp2_with fail
        refine (Nums_any v.la v.lc v.l _ (Kd.C_below HOK.out.cl ((Below.refl _ w).alloc (Nat.le_refl _) _)) HOK.out.ll (by omega) HOK.out.il).mono ?_
        rw [show mkB (listB intB v.l) = R from HR.out]
        rintro e w1 ⟨rfl, b1⟩
        have B1 : Hid (Below w.heap.size w w1) := Lib.hid (((Below.refl _ w).alloc (Nat.le_refl _) _).trans (b1.mono (by simp)))
        clear b1
        go_wp2
        go_ret
        exact ⟨rfl, B1.out⟩
      · rw [if_neg h2] at hR
        have HR := Lib.hid hR
        have k2 : (Go.bits .and .i64 v.k 3 == 2) = false := by unfold kd at h2; simpa using h2
        clear hR h0 h1 h2
        go_enter Tryd.func112, Tryd.ntmps112
        go_wp2_with fail
        refine (Texts_any v.ta v.tc v.t _ (Kd.C_below HOK.out.ct ((Below.refl _ w).alloc (Nat.le_refl _) _)) HOK.out.lt (by omega) (fun x hx => Nat.le_trans (HL4.out x hx) (by decide)) (HM.out.below ((Below.refl _ w).alloc (Nat.le_refl _) _))).mono ?_
        rw [lists_listB, HR.out]
        rintro e w1 ⟨rfl, b1⟩
        have B1 : Hid (Below w.heap.size w w1) := Lib.hid (((Below.refl _ w).alloc (Nat.le_refl _) _).trans (b1.mono (by simp)))
        clear b1
        go_wp2
        go_ret
        exact ⟨rfl, B1.out⟩
/-- The concatenated encodings. -/
def allB (l : List V5) : List UInt8 := l.flatMap wrB
theorem allB_take (l : List V5) (k : Nat) (v : V5) (h : l[k]? = some v) : allB (l.take (k + 1)) = allB (l.take k) ++ wrB v := by
  unfold allB
  rw [List.take_add_one, h]
  simp
theorem later5 {w w' : World} {A : Option Addr} {l : List V5} (h : Reads5 RV w A l) (hb : Below w.heap.size w w') : Reads5 RV w' A l := Reads5.below h (fun x cs hx => ⟨hx.1, hx.2.below hb⟩) hb
set_option maxHeartbeats 4000000 in
set_option maxRecDepth 100000 in
theorem all_any (A : Option Addr) (c : Nat) (l : List V5) (w : World) (hR : Reads5 RV w A l) (hc : l.length ≤ c) (hcm : c ≤ maxLen) (h20 : l.length ≤ 20) (hl : ∀ v ∈ l, lightV v) (hM : MaxW w) : Calls Tryd.prog 57 #[.slice A l.length c] w fun e w' => e = .returned (.string (mkB (allB l))) ∧ Below w.heap.size w w' ∧ (allB l).length ≤ 1200000 := by
  unfold maxLen at hcm
  have HR := Lib.hid hR; have HM := Lib.hid hM; have HLT := Lib.hid hl
  clear hR hM hl
  go_enter Tryd.func57, Tryd.ntmps57
  go_wp2
  go_loopw [3, 4] (fun s i wr => ∃ (k : Nat) (S : ByteArray), k ≤ l.length ∧ i = .int .i64 k ∧ s = .string S ∧ Hid (S = mkB (allB (l.take k))) ∧ S.size ≤ 60000 * k ∧ Hid (Below w.heap.size w wr)) (fun _ i _ => l.length - (intOf i).toNat)
  case atStart => exact ⟨0, ⟨#[]⟩, by omega, rfl, rfl, Lib.hid rfl, by decide, Lib.hid (Below.refl _ w)⟩
  case round =>
    obtain ⟨k, S, hk, rfl, rfl, hS, hz, hB⟩ := hrel
    by_cases hlt : k < l.length
    · obtain ⟨ad, v, rfl, hv, hvm, hok, hcs⟩ := value_at (later5 HR.out hB.out) k hlt
      have hlv := HLT.out v hvm
      have HV := Lib.hid hv; have HOK := Lib.hid hok; have HLV := Lib.hid hlv
      have c0 := hcs.c0; have c1 := hcs.c1; have c2 := hcs.c2; have c3 := hcs.c3; have c4 := hcs.c4
      have hwl := wrB_len v wr hok hlv
      obtain ⟨T, hT⟩ : ∃ T, mkB (wrB v) = T := ⟨_, rfl⟩
      have hTz : T.size ≤ 60000 := by rw [← hT, mkB_size]; exact hwl
      have HT := Lib.hid hT
      clear hcs hok hv hvm hlv hwl hT
      go_wp2_with fail
      refine (write_any v wr HOK.out HLV.out (HM.out.below hB.out)).mono ?_
      rw [HT.out]
      rintro e w1 ⟨rfl, b1⟩
      have B1 : Hid (Below w.heap.size w w1) := Lib.hid (hB.out.trans (b1.mono hB.out.size))
      clear b1 c0 c1 c2 c3 c4
      go_wp2
      go_roundw
      case rel => exact ⟨k + 1, S ++ T, by omega, by go_num, rfl, Lib.hid (by rw [hS.out, ← HT.out, mkB_append, allB_take l k v HV.out]), by rw [ByteArray.size_append]; omega, B1⟩
      case measure => simp [intOf]; omega
    · obtain rfl : k = l.length := by omega
      have hsz : (allB l).length ≤ 1200000 := by
        have h1 := hS.out
        rw [List.take_length] at h1
        rw [h1, mkB_size] at hz
        omega
      have HSZ := Lib.hid hsz
      clear hsz
      go_wp2
      go_ret
      exact ⟨ret_s' (by have := hS.out; rwa [List.take_length] at this), hB.out, HSZ.out⟩
end Go.Proofs.YtdgejkiackeieaaDoor.Wr
end
section
set_option linter.unusedVariables false
set_option linter.unusedSimpArgs false
/- Layer 24: when a telegram is well formed. -/
set_option linter.unusedVariables false
set_option linter.unusedSimpArgs false
namespace Go.Proofs.YtdgejkiackeieaaDoor.Gm
open Go.RowKit Go.Proofs.YtdgejkiackeieaaDoor Go.Proofs.YtdgejkiackeieaaDoor.Wr Go.Proofs.YtdgejkiackeieaaDoorW.PrintWords Go.Proofs.YtdgejkiackeieaaDoorW.PrintMore Go.Proofs.YtdgejkiackeieaaDoorW.PrintLast
attribute [local go_sem] max2_int min2_int
/-- A telegram that lies in a block of the call's own. -/
structure Gl (w0 w : World) (g : Nat) (a b c d : Int) (t : ByteArray) : Prop where
  blk : w.heap[g]? = some (.cells #[.int .i64 a, .int .i64 b, .int .i64 c, .int .i64 d, .string t] 34 (0, 0))
  below : Below w0.heap.size w0 w
  ge : w0.heap.size ≤ g
theorem Gl.lt {w0 w : World} {g : Nat} {a b c d : Int} {t : ByteArray} (h : Gl w0 w g a b c d t) : g < w.heap.size := blk_lt h.blk
theorem Gl.more {w0 w w' : World} {g : Nat} {a b c d : Int} {t : ByteArray} (h : Gl w0 w g a b c d t) (hb : Below w.heap.size w w') : Gl w0 w' g a b c d t :=
  ⟨(hb.block g h.lt).trans h.blk, h.below.trans (hb.mono h.below.size), h.ge⟩
/-- Within the limits. -/
def okN (a b c d : Int) : Prop := (0 ≤ a ∧ a ≤ 127) ∧ (0 ≤ b ∧ b ≤ 1099511627776) ∧ (0 ≤ c ∧ c ≤ 1006633019) ∧ (-1099511627776 ≤ d ∧ d ≤ 1099511627776)
instance (a b c d : Int) : Decidable (okN a b c d) := by unfold okN; infer_instance
end Go.Proofs.YtdgejkiackeieaaDoor.Gm
end
section
set_option linter.unusedVariables false
set_option linter.unusedSimpArgs false
/- The walk of WireWrites. -/
set_option linter.unusedVariables false
set_option linter.unusedSimpArgs false
namespace Go.Proofs.YtdgejkiackeieaaDoor.Wr
open Go.RowKit Go.Proofs.YtdgejkiackeieaaDoor Go.Proofs.YtdgejkiackeieaaDoor.PWr Go.Proofs.YtdgejkiackeieaaDoor.Gm Go.Proofs.YtdgejkiackeieaaDoorW.PrintWords Go.Proofs.YtdgejkiackeieaaDoorW.PrintMore Go.Proofs.YtdgejkiackeieaaDoorW.PrintLast
theorem refInt_w (n : Int) (w : World) (h : InR n) : Calls Tryd.prog 49 #[.int .i64 n] w fun e w' => e = .returned (.string (mkB (intB n))) ∧ Below w.heap.size w w' := bourneref02_Int.calls 20 n _ w (ref_Int_eq n h 0)
theorem refText_w (s : ByteArray) (w : World) (h : s.size ≤ 1000000) : Calls Tryd.prog 52 #[.string s] w fun e w' => e = .returned (.string (mkB (textB s.data.toList))) ∧ Below w.heap.size w w' := bourneref02_Text.calls (s.size + 1) s _ w (ref_Text_eq s h _ (Nat.lt_succ_self _))
theorem refNums_w (A : Option Addr) (c : Nat) (l : List Int) (w : World) (hR : Kd.C (Kd.int .i64) w A l.length l) (hc : l.length ≤ c) (hl : l.length ≤ 100000) (hx : ∀ x ∈ l, InR x) : Calls Tryd.prog 54 #[.slice A l.length c] w fun e w' => e = .returned (.string (mkB (numsB l))) ∧ Below w.heap.size w w' := bourneref02_Nums.calls _ A c l _ w hR hc (ref_Nums_eq l hx hl)
theorem refTexts_w (A : Option Addr) (c : Nat) (l : List ByteArray) (w : World) (hR : Kd.C Kd.string w A l.length l) (hc : l.length ≤ c) (hl : l.length ≤ 100000) (hx : ∀ x ∈ l, x.size ≤ 100000) : Calls Tryd.prog 56 #[.slice A l.length c] w fun e w' => e = .returned (.string (mkB (textsB (lists l)))) ∧ Below w.heap.size w w' := bourneref02_Texts.calls _ A c l _ w hR hc (ref_Texts_eq l hx hl)
/-- A value in a block of the call's own. -/
structure Ws (w0 w : World) (g : Nat) (v : V5) : Prop where
  blk : w.heap[g]? = some (.cells #[.int .i64 v.k, .int .i64 v.n, .string v.s, .slice v.la v.l.length v.lc, .slice v.ta v.t.length v.tc] 50 (0, 0))
  below : Below w0.heap.size w0 w
theorem Ws.more {w0 w w' : World} {g : Nat} {v : V5} (H : Ws w0 w g v) (hb : Below w.heap.size w w') : Ws w0 w' g v := ⟨(hb.block g (blk_lt H.blk)).trans H.blk, H.below.trans (hb.mono H.below.size)⟩
set_option maxHeartbeats 8000000 in
set_option maxRecDepth 100000 in
theorem WireWrites_any (A : Option Addr) (c : Nat) (l : List V5) (n : Int) (w : World) (hR : Reads5 RV w A l) (hc : l.length ≤ c) (hcm : c ≤ maxLen) (hn : InR n) (hM : MaxW w) : Calls Tryd.prog 11 #[.slice A l.length c, .int .i64 n] w fun e w' => e = .returned (.bool true) ∧ Below w.heap.size w w' := by
  have HR := Lib.hid hR; have HM := Lib.hid hM; have HN := Lib.hid hn; have HCM := Lib.hid hcm
  clear hR hM hn hcm
  go_enter Tryd.func11, Tryd.ntmps11
  go_wp2_with fail
  refine (small_any w HM.out).mono ?_
  rintro e w1 ⟨rfl, b1⟩
  have B1 := Lib.hid b1; clear b1
  go_wp2_with fail
  refine (light_any A c l w1 (later5 HR.out B1.out) hc HCM.out).mono ?_
  intro e w2 hlp
  obtain ⟨b, rfl, hb, rfl⟩ := hlp
  cases b
  · go_wp2
    go_ret
    exact ⟨rfl, B1.out⟩
  · obtain ⟨h20, hl⟩ := hb rfl
    have HLT := Lib.hid hl
    have HCM' := HCM.out
    unfold maxLen at HCM'
    clear hb hl
    go_wp2_with fail
    go_loopw [7] (fun i wr => ∃ k : Nat, k ≤ l.length ∧ i = .int .i64 k ∧ Hid (Below w.heap.size w wr)) (fun i _ => l.length - (intOf i).toNat)
    case atStart => exact ⟨0, by omega, rfl, B1⟩
    case round =>
      obtain ⟨k, hk, rfl, hB⟩ := hrel
      by_cases hlt : k < l.length
      · obtain ⟨ad, v, rfl, hv, hvm, hok, hcs⟩ := value_at (later5 HR.out hB.out) k hlt
        have hlv := HLT.out v hvm
        obtain ⟨q1, q2, q3, q4⟩ := hlv
        have HOK := Lib.hid hok; have HQ := Lib.hid q4
        have c0 := hcs.c0; have c1 := hcs.c1; have c2 := hcs.c2; have c3 := hcs.c3; have c4 := hcs.c4
        clear hcs hok hv hvm q4
        go_upto_region 9 with fail
        clear c0 c1 c2 c3 c4
        obtain ⟨W, hW⟩ : ∃ W, (wr.alloc (Obj.cells #[Value.int .i64 v.k, Value.int .i64 v.n, Value.string v.s, Value.slice v.la v.l.length v.lc, Value.slice v.ta v.t.length v.tc] 50)) = W := ⟨_, rfl⟩
        obtain ⟨g, hg⟩ : ∃ g, wr.heap.size = g := ⟨_, rfl⟩
        have S0 : Hid (Ws wr W g v) := Lib.hid (by rw [← hW, ← hg]; exact ⟨heap_alloc_new wr _, (Below.refl _ _).alloc (Nat.le_refl _) _⟩)
        rw [hW, hg]
        clear hW hg
        obtain ⟨R1, hR1⟩ : ∃ R, mkB (intB v.n) = R := ⟨_, rfl⟩
        obtain ⟨R2, hR2⟩ : ∃ R, mkB (numB v.n) = R := ⟨_, rfl⟩
        obtain ⟨R3, hR3⟩ : ∃ R, mkB (textB v.s.data.toList) = R := ⟨_, rfl⟩
        obtain ⟨R4, hR4⟩ : ∃ R, mkB (numsB v.l) = R := ⟨_, rfl⟩
        obtain ⟨R5, hR5⟩ : ∃ R, mkB (textsB (lists v.t)) = R := ⟨_, rfl⟩
        have H1 := Lib.hid hR1; have H2 := Lib.hid hR2; have H3 := Lib.hid hR3; have H4 := Lib.hid hR4; have H5 := Lib.hid hR5
        clear hR1 hR2 hR3 hR4 hR5
        refine start_ (n := 43) (S := fun w' => Ws wr w' g v) (ds := []) #[false, false, false, false, false, false, false, false, false, false, false, false, false, false, false, false, false, false, false, false, false, false, false, false, false, false, false, false, false, false, false, false, false, false, false, false, false, false, false, false, false, false, false] (by kernel_rfl) rfl rfl (S0.out.more (below_drew (Below.refl _ _))) (fun hHeld => ?_)
        refine pure_ (i := 0) (N := some 25) (v := ?_) (a' := ?_) #[true, false, false, false, false, false, false, false, false, false, false, false, false, false, false, false, false, false, false, false, false, false, false, false, false, false, false, false, false, false, false, false, false, false, false, false, false, false, false, false, false, false, false] rfl rfl (by kernel_rfl) (fun _ _ _ h => h) (Or.inl ⟨by rfl, ?_⟩) ?_ ?_
        rotate_left
        · intro w'
          go_simp
          with_reducible rfl
        rotate_left
        · simp only [Act.put, List.setIfInBounds_toArray, List.set_cons_zero, List.set_cons_succ, i64_w, i32_w]
          rfl
        refine take_ (i := 1) (N := some 26) (v := ?_) (a' := ?_) #[true, true, false, false, false, false, false, false, false, false, false, false, false, false, false, false, false, false, false, false, false, false, false, false, false, false, false, false, false, false, false, false, false, false, false, false, false, false, false, false, false, false, false] rfl rfl (by kernel_rfl) (fun _ _ _ h => h) (Or.inl ⟨by rfl, ?_⟩) hHeld ?_ ?_
        rotate_left
        · intro w' hL'
          have c0 := blk_cell hL'.blk 0
          have c1 := blk_cell hL'.blk 1
          have c2 := blk_cell hL'.blk 2
          have c3 := blk_cell hL'.blk 3
          have c4 := blk_cell hL'.blk 4
          go_simp
          with_reducible rfl
        rotate_left
        · simp only [Act.put, List.setIfInBounds_toArray, List.set_cons_zero, List.set_cons_succ, i64_w, i32_w]
          rfl
        refine pure_ (i := 3) (N := some 28) (v := ?_) (a' := ?_) #[true, true, false, true, false, false, false, false, false, false, false, false, false, false, false, false, false, false, false, false, false, false, false, false, false, false, false, false, false, false, false, false, false, false, false, false, false, false, false, false, false, false, false] rfl rfl (by kernel_rfl) (fun _ _ _ h => h) (Or.inl ⟨by rfl, ?_⟩) ?_ ?_
        rotate_left
        · intro w'
          go_simp
          with_reducible rfl
        rotate_left
        · simp only [Act.put, List.setIfInBounds_toArray, List.set_cons_zero, List.set_cons_succ, i64_w, i32_w]
          rfl
        refine take_ (i := 4) (N := some 29) (v := ?_) (a' := ?_) #[true, true, false, true, true, false, false, false, false, false, false, false, false, false, false, false, false, false, false, false, false, false, false, false, false, false, false, false, false, false, false, false, false, false, false, false, false, false, false, false, false, false, false] rfl rfl (by kernel_rfl) (fun _ _ _ h => h) (Or.inl ⟨by rfl, ?_⟩) hHeld ?_ ?_
        rotate_left
        · intro w' hL'
          have c0 := blk_cell hL'.blk 0
          have c1 := blk_cell hL'.blk 1
          have c2 := blk_cell hL'.blk 2
          have c3 := blk_cell hL'.blk 3
          have c4 := blk_cell hL'.blk 4
          go_simp
          with_reducible rfl
        rotate_left
        · simp only [Act.put, List.setIfInBounds_toArray, List.set_cons_zero, List.set_cons_succ, i64_w, i32_w]
          rfl
        refine one_ (i := 2) (N := some 27) #[true, true, true, true, true, false, false, false, false, false, false, false, false, false, false, false, false, false, false, false, false, false, false, false, false, false, false, false, false, false, false, false, false, false, false, false, false, false, false, false, false, false, false] rfl rfl (by kernel_rfl) (by decide) (fun K hK => ?_)
        refine goes_ Tryd.func41 (by kernel_rfl) rfl #[.int .i64 v.n] (by rfl) rfl rfl (by simp only [List.map_toArray, List.map_cons, List.map_nil]; rfl) ?_
        refine (Int_any v.n _ HOK.out.im).mono ?_
        rw [H1.out]
        rintro e w' ⟨rfl, hb'⟩
        refine ⟨_, rfl, ?_⟩
        refine hK.out _ _ (hHeld.more hb') (fun hHeld => ?_)
        clear hK K
        refine norm_ (a' := ?_) ?_ ?_
        rotate_left
        · show Act.put _ (some 27) _ = _
          simp only [Act.put, List.setIfInBounds_toArray, List.set_cons_zero, List.set_cons_succ, i64_w, i32_w]
          rfl
        refine one_ (i := 5) (N := some 30) #[true, true, true, true, true, true, false, false, false, false, false, false, false, false, false, false, false, false, false, false, false, false, false, false, false, false, false, false, false, false, false, false, false, false, false, false, false, false, false, false, false, false, false] rfl rfl (by kernel_rfl) (by decide) (fun K hK => ?_)
        refine goes_ Tryd.func49 (by kernel_rfl) rfl #[.int .i64 v.n] (by rfl) rfl rfl (by simp only [List.map_toArray, List.map_cons, List.map_nil]; rfl) ?_
        refine (refInt_w v.n _ HOK.out.im).mono ?_
        rw [H1.out]
        rintro e w' ⟨rfl, hb'⟩
        refine ⟨_, rfl, ?_⟩
        refine hK.out _ _ (hHeld.more hb') (fun hHeld => ?_)
        clear hK K
        refine norm_ (a' := ?_) ?_ ?_
        rotate_left
        · show Act.put _ (some 30) _ = _
          simp only [Act.put, List.setIfInBounds_toArray, List.set_cons_zero, List.set_cons_succ, i64_w, i32_w]
          rfl
        refine pure_ (i := 6) (N := some 31) (v := ?_) (a' := ?_) #[true, true, true, true, true, true, true, false, false, false, false, false, false, false, false, false, false, false, false, false, false, false, false, false, false, false, false, false, false, false, false, false, false, false, false, false, false, false, false, false, false, false, false] rfl rfl (by kernel_rfl) (fun _ _ _ h => h) (Or.inl ⟨by rfl, ?_⟩) ?_ ?_
        rotate_left
        · intro w'
          go_simp
          first | rfl | simp
        rotate_left
        · simp only [Act.put, List.setIfInBounds_toArray, List.set_cons_zero, List.set_cons_succ, i64_w, i32_w]
          rfl
        refine pure_ (i := 7) (N := some 32) (v := ?_) (a' := ?_) #[true, true, true, true, true, true, true, true, false, false, false, false, false, false, false, false, false, false, false, false, false, false, false, false, false, false, false, false, false, false, false, false, false, false, false, false, false, false, false, false, false, false, false] rfl rfl (by kernel_rfl) (fun _ _ _ h => h) (Or.inl ⟨by rfl, ?_⟩) ?_ ?_
        rotate_left
        · intro w'
          go_simp
          with_reducible rfl
        rotate_left
        · simp only [Act.put, List.setIfInBounds_toArray, List.set_cons_zero, List.set_cons_succ, i64_w, i32_w]
          rfl
        refine pure_ (i := 8) (N := some 33) (v := ?_) (a' := ?_) #[true, true, true, true, true, true, true, true, true, false, false, false, false, false, false, false, false, false, false, false, false, false, false, false, false, false, false, false, false, false, false, false, false, false, false, false, false, false, false, false, false, false, false] rfl rfl (by kernel_rfl) (fun _ _ _ h => h) (Or.inl ⟨by rfl, ?_⟩) ?_ ?_
        rotate_left
        · intro w'
          go_simp
          with_reducible rfl
        rotate_left
        · simp only [Act.put, List.setIfInBounds_toArray, List.set_cons_zero, List.set_cons_succ, i64_w, i32_w]
          rfl
        refine take_ (i := 9) (N := some 34) (v := ?_) (a' := ?_) #[true, true, true, true, true, true, true, true, true, true, false, false, false, false, false, false, false, false, false, false, false, false, false, false, false, false, false, false, false, false, false, false, false, false, false, false, false, false, false, false, false, false, false] rfl rfl (by kernel_rfl) (fun _ _ _ h => h) (Or.inl ⟨by rfl, ?_⟩) hHeld ?_ ?_
        rotate_left
        · intro w' hL'
          have c0 := blk_cell hL'.blk 0
          have c1 := blk_cell hL'.blk 1
          have c2 := blk_cell hL'.blk 2
          have c3 := blk_cell hL'.blk 3
          have c4 := blk_cell hL'.blk 4
          go_simp
          with_reducible rfl
        rotate_left
        · simp only [Act.put, List.setIfInBounds_toArray, List.set_cons_zero, List.set_cons_succ, i64_w, i32_w]
          rfl
        refine pure_ (i := 11) (N := some 36) (v := ?_) (a' := ?_) #[true, true, true, true, true, true, true, true, true, true, false, true, false, false, false, false, false, false, false, false, false, false, false, false, false, false, false, false, false, false, false, false, false, false, false, false, false, false, false, false, false, false, false] rfl rfl (by kernel_rfl) (fun _ _ _ h => h) (Or.inl ⟨by rfl, ?_⟩) ?_ ?_
        rotate_left
        · intro w'
          go_simp
          with_reducible rfl
        rotate_left
        · simp only [Act.put, List.setIfInBounds_toArray, List.set_cons_zero, List.set_cons_succ, i64_w, i32_w]
          rfl
        refine take_ (i := 12) (N := some 37) (v := ?_) (a' := ?_) #[true, true, true, true, true, true, true, true, true, true, false, true, true, false, false, false, false, false, false, false, false, false, false, false, false, false, false, false, false, false, false, false, false, false, false, false, false, false, false, false, false, false, false] rfl rfl (by kernel_rfl) (fun _ _ _ h => h) (Or.inl ⟨by rfl, ?_⟩) hHeld ?_ ?_
        rotate_left
        · intro w' hL'
          have c0 := blk_cell hL'.blk 0
          have c1 := blk_cell hL'.blk 1
          have c2 := blk_cell hL'.blk 2
          have c3 := blk_cell hL'.blk 3
          have c4 := blk_cell hL'.blk 4
          go_simp
          with_reducible rfl
        rotate_left
        · simp only [Act.put, List.setIfInBounds_toArray, List.set_cons_zero, List.set_cons_succ, i64_w, i32_w]
          rfl
        refine one_ (i := 10) (N := some 35) #[true, true, true, true, true, true, true, true, true, true, true, true, true, false, false, false, false, false, false, false, false, false, false, false, false, false, false, false, false, false, false, false, false, false, false, false, false, false, false, false, false, false, false] rfl rfl (by kernel_rfl) (by decide) (fun K hK => ?_)
        refine goes_ Tryd.func50 (by kernel_rfl) rfl #[.int .i64 v.n] (by rfl) rfl rfl (by simp only [List.map_toArray, List.map_cons, List.map_nil]; rfl) ?_
        refine (Num_any v.n _ HOK.out.im).mono ?_
        rw [H2.out]
        rintro e w' ⟨rfl, hb'⟩
        refine ⟨_, rfl, ?_⟩
        refine hK.out _ _ (hHeld.more hb') (fun hHeld => ?_)
        clear hK K
        refine norm_ (a' := ?_) ?_ ?_
        rotate_left
        · show Act.put _ (some 35) _ = _
          simp only [Act.put, List.setIfInBounds_toArray, List.set_cons_zero, List.set_cons_succ, i64_w, i32_w]
          rfl
        refine one_ (i := 13) (N := some 38) #[true, true, true, true, true, true, true, true, true, true, true, true, true, true, false, false, false, false, false, false, false, false, false, false, false, false, false, false, false, false, false, false, false, false, false, false, false, false, false, false, false, false, false] rfl rfl (by kernel_rfl) (by decide) (fun K hK => ?_)
        refine goes_ Tryd.func51 (by kernel_rfl) rfl #[.int .i64 v.n] (by rfl) rfl rfl (by simp only [List.map_toArray, List.map_cons, List.map_nil]; rfl) ?_
        refine (refNum_w v.n _ HOK.out.im).mono ?_
        rw [H2.out]
        rintro e w' ⟨rfl, hb'⟩
        refine ⟨_, rfl, ?_⟩
        refine hK.out _ _ (hHeld.more hb') (fun hHeld => ?_)
        clear hK K
        refine norm_ (a' := ?_) ?_ ?_
        rotate_left
        · show Act.put _ (some 38) _ = _
          simp only [Act.put, List.setIfInBounds_toArray, List.set_cons_zero, List.set_cons_succ, i64_w, i32_w]
          rfl
        refine pure_ (i := 14) (N := some 39) (v := ?_) (a' := ?_) #[true, true, true, true, true, true, true, true, true, true, true, true, true, true, true, false, false, false, false, false, false, false, false, false, false, false, false, false, false, false, false, false, false, false, false, false, false, false, false, false, false, false, false] rfl rfl (by kernel_rfl) (fun _ _ _ h => h) (Or.inl ⟨by rfl, ?_⟩) ?_ ?_
        rotate_left
        · intro w'
          go_simp
          first | rfl | simp
        rotate_left
        · simp only [Act.put, List.setIfInBounds_toArray, List.set_cons_zero, List.set_cons_succ, i64_w, i32_w]
          rfl
        refine pure_ (i := 15) (N := some 40) (v := ?_) (a' := ?_) #[true, true, true, true, true, true, true, true, true, true, true, true, true, true, true, true, false, false, false, false, false, false, false, false, false, false, false, false, false, false, false, false, false, false, false, false, false, false, false, false, false, false, false] rfl rfl (by kernel_rfl) (fun _ _ _ h => h) (Or.inl ⟨by rfl, ?_⟩) ?_ ?_
        rotate_left
        · intro w'
          go_simp
          with_reducible rfl
        rotate_left
        · simp only [Act.put, List.setIfInBounds_toArray, List.set_cons_zero, List.set_cons_succ, i64_w, i32_w]
          rfl
        refine pure_ (i := 16) (N := some 41) (v := ?_) (a' := ?_) #[true, true, true, true, true, true, true, true, true, true, true, true, true, true, true, true, true, false, false, false, false, false, false, false, false, false, false, false, false, false, false, false, false, false, false, false, false, false, false, false, false, false, false] rfl rfl (by kernel_rfl) (fun _ _ _ h => h) (Or.inl ⟨by rfl, ?_⟩) ?_ ?_
        rotate_left
        · intro w'
          go_simp
          with_reducible rfl
        rotate_left
        · simp only [Act.put, List.setIfInBounds_toArray, List.set_cons_zero, List.set_cons_succ, i64_w, i32_w]
          rfl
        refine pure_ (i := 17) (N := some 42) (v := ?_) (a' := ?_) #[true, true, true, true, true, true, true, true, true, true, true, true, true, true, true, true, true, true, false, false, false, false, false, false, false, false, false, false, false, false, false, false, false, false, false, false, false, false, false, false, false, false, false] rfl rfl (by kernel_rfl) (fun _ _ _ h => h) (Or.inl ⟨by rfl, ?_⟩) ?_ ?_
        rotate_left
        · intro w'
          go_simp
          with_reducible rfl
        rotate_left
        · simp only [Act.put, List.setIfInBounds_toArray, List.set_cons_zero, List.set_cons_succ, i64_w, i32_w]
          rfl
        refine take_ (i := 18) (N := some 43) (v := ?_) (a' := ?_) #[true, true, true, true, true, true, true, true, true, true, true, true, true, true, true, true, true, true, true, false, false, false, false, false, false, false, false, false, false, false, false, false, false, false, false, false, false, false, false, false, false, false, false] rfl rfl (by kernel_rfl) (fun _ _ _ h => h) (Or.inl ⟨by rfl, ?_⟩) hHeld ?_ ?_
        rotate_left
        · intro w' hL'
          have c0 := blk_cell hL'.blk 0
          have c1 := blk_cell hL'.blk 1
          have c2 := blk_cell hL'.blk 2
          have c3 := blk_cell hL'.blk 3
          have c4 := blk_cell hL'.blk 4
          go_simp
          with_reducible rfl
        rotate_left
        · simp only [Act.put, List.setIfInBounds_toArray, List.set_cons_zero, List.set_cons_succ, i64_w, i32_w]
          rfl
        refine pure_ (i := 20) (N := some 45) (v := ?_) (a' := ?_) #[true, true, true, true, true, true, true, true, true, true, true, true, true, true, true, true, true, true, true, false, true, false, false, false, false, false, false, false, false, false, false, false, false, false, false, false, false, false, false, false, false, false, false] rfl rfl (by kernel_rfl) (fun _ _ _ h => h) (Or.inl ⟨by rfl, ?_⟩) ?_ ?_
        rotate_left
        · intro w'
          go_simp
          with_reducible rfl
        rotate_left
        · simp only [Act.put, List.setIfInBounds_toArray, List.set_cons_zero, List.set_cons_succ, i64_w, i32_w]
          rfl
        refine take_ (i := 21) (N := some 46) (v := ?_) (a' := ?_) #[true, true, true, true, true, true, true, true, true, true, true, true, true, true, true, true, true, true, true, false, true, true, false, false, false, false, false, false, false, false, false, false, false, false, false, false, false, false, false, false, false, false, false] rfl rfl (by kernel_rfl) (fun _ _ _ h => h) (Or.inl ⟨by rfl, ?_⟩) hHeld ?_ ?_
        rotate_left
        · intro w' hL'
          have c0 := blk_cell hL'.blk 0
          have c1 := blk_cell hL'.blk 1
          have c2 := blk_cell hL'.blk 2
          have c3 := blk_cell hL'.blk 3
          have c4 := blk_cell hL'.blk 4
          go_simp
          with_reducible rfl
        rotate_left
        · simp only [Act.put, List.setIfInBounds_toArray, List.set_cons_zero, List.set_cons_succ, i64_w, i32_w]
          rfl
        refine one_ (i := 19) (N := some 44) #[true, true, true, true, true, true, true, true, true, true, true, true, true, true, true, true, true, true, true, true, true, true, false, false, false, false, false, false, false, false, false, false, false, false, false, false, false, false, false, false, false, false, false] rfl rfl (by kernel_rfl) (by decide) (fun K hK => ?_)
        refine goes_ Tryd.func40 (by kernel_rfl) rfl #[.string v.s] (by rfl) rfl rfl (by simp only [List.map_toArray, List.map_cons, List.map_nil]; rfl) ?_
        refine (Text_any v.s _ (HM.out.below (hB.out.trans (hHeld.below.mono hB.out.size))) (by omega)).mono ?_
        rw [H3.out]
        rintro e w' ⟨rfl, hb'⟩
        refine ⟨_, rfl, ?_⟩
        refine hK.out _ _ (hHeld.more hb') (fun hHeld => ?_)
        clear hK K
        refine norm_ (a' := ?_) ?_ ?_
        rotate_left
        · show Act.put _ (some 44) _ = _
          simp only [Act.put, List.setIfInBounds_toArray, List.set_cons_zero, List.set_cons_succ, i64_w, i32_w]
          rfl
        refine one_ (i := 22) (N := some 47) #[true, true, true, true, true, true, true, true, true, true, true, true, true, true, true, true, true, true, true, true, true, true, true, false, false, false, false, false, false, false, false, false, false, false, false, false, false, false, false, false, false, false, false] rfl rfl (by kernel_rfl) (by decide) (fun K hK => ?_)
        refine goes_ Tryd.func52 (by kernel_rfl) rfl #[.string v.s] (by rfl) rfl rfl (by simp only [List.map_toArray, List.map_cons, List.map_nil]; rfl) ?_
        refine (refText_w v.s _ (by omega)).mono ?_
        rw [H3.out]
        rintro e w' ⟨rfl, hb'⟩
        refine ⟨_, rfl, ?_⟩
        refine hK.out _ _ (hHeld.more hb') (fun hHeld => ?_)
        clear hK K
        refine norm_ (a' := ?_) ?_ ?_
        rotate_left
        · show Act.put _ (some 47) _ = _
          simp only [Act.put, List.setIfInBounds_toArray, List.set_cons_zero, List.set_cons_succ, i64_w, i32_w]
          rfl
        refine pure_ (i := 23) (N := some 48) (v := ?_) (a' := ?_) #[true, true, true, true, true, true, true, true, true, true, true, true, true, true, true, true, true, true, true, true, true, true, true, true, false, false, false, false, false, false, false, false, false, false, false, false, false, false, false, false, false, false, false] rfl rfl (by kernel_rfl) (fun _ _ _ h => h) (Or.inl ⟨by rfl, ?_⟩) ?_ ?_
        rotate_left
        · intro w'
          go_simp
          first | rfl | simp
        rotate_left
        · simp only [Act.put, List.setIfInBounds_toArray, List.set_cons_zero, List.set_cons_succ, i64_w, i32_w]
          rfl
        refine pure_ (i := 24) (N := some 49) (v := ?_) (a' := ?_) #[true, true, true, true, true, true, true, true, true, true, true, true, true, true, true, true, true, true, true, true, true, true, true, true, true, false, false, false, false, false, false, false, false, false, false, false, false, false, false, false, false, false, false] rfl rfl (by kernel_rfl) (fun _ _ _ h => h) (Or.inl ⟨by rfl, ?_⟩) ?_ ?_
        rotate_left
        · intro w'
          go_simp
          with_reducible rfl
        rotate_left
        · simp only [Act.put, List.setIfInBounds_toArray, List.set_cons_zero, List.set_cons_succ, i64_w, i32_w]
          rfl
        refine pure_ (i := 25) (N := some 50) (v := ?_) (a' := ?_) #[true, true, true, true, true, true, true, true, true, true, true, true, true, true, true, true, true, true, true, true, true, true, true, true, true, true, false, false, false, false, false, false, false, false, false, false, false, false, false, false, false, false, false] rfl rfl (by kernel_rfl) (fun _ _ _ h => h) (Or.inl ⟨by rfl, ?_⟩) ?_ ?_
        rotate_left
        · intro w'
          go_simp
          with_reducible rfl
        rotate_left
        · simp only [Act.put, List.setIfInBounds_toArray, List.set_cons_zero, List.set_cons_succ, i64_w, i32_w]
          rfl
        refine pure_ (i := 26) (N := some 51) (v := ?_) (a' := ?_) #[true, true, true, true, true, true, true, true, true, true, true, true, true, true, true, true, true, true, true, true, true, true, true, true, true, true, true, false, false, false, false, false, false, false, false, false, false, false, false, false, false, false, false] rfl rfl (by kernel_rfl) (fun _ _ _ h => h) (Or.inl ⟨by rfl, ?_⟩) ?_ ?_
        rotate_left
        · intro w'
          go_simp
          with_reducible rfl
        rotate_left
        · simp only [Act.put, List.setIfInBounds_toArray, List.set_cons_zero, List.set_cons_succ, i64_w, i32_w]
          rfl
        refine take_ (i := 27) (N := some 52) (v := ?_) (a' := ?_) #[true, true, true, true, true, true, true, true, true, true, true, true, true, true, true, true, true, true, true, true, true, true, true, true, true, true, true, true, false, false, false, false, false, false, false, false, false, false, false, false, false, false, false] rfl rfl (by kernel_rfl) (fun _ _ _ h => h) (Or.inl ⟨by rfl, ?_⟩) hHeld ?_ ?_
        rotate_left
        · intro w' hL'
          have c0 := blk_cell hL'.blk 0
          have c1 := blk_cell hL'.blk 1
          have c2 := blk_cell hL'.blk 2
          have c3 := blk_cell hL'.blk 3
          have c4 := blk_cell hL'.blk 4
          go_simp
          with_reducible rfl
        rotate_left
        · simp only [Act.put, List.setIfInBounds_toArray, List.set_cons_zero, List.set_cons_succ, i64_w, i32_w]
          rfl
        refine pure_ (i := 29) (N := some 54) (v := ?_) (a' := ?_) #[true, true, true, true, true, true, true, true, true, true, true, true, true, true, true, true, true, true, true, true, true, true, true, true, true, true, true, true, false, true, false, false, false, false, false, false, false, false, false, false, false, false, false] rfl rfl (by kernel_rfl) (fun _ _ _ h => h) (Or.inl ⟨by rfl, ?_⟩) ?_ ?_
        rotate_left
        · intro w'
          go_simp
          with_reducible rfl
        rotate_left
        · simp only [Act.put, List.setIfInBounds_toArray, List.set_cons_zero, List.set_cons_succ, i64_w, i32_w]
          rfl
        refine take_ (i := 30) (N := some 55) (v := ?_) (a' := ?_) #[true, true, true, true, true, true, true, true, true, true, true, true, true, true, true, true, true, true, true, true, true, true, true, true, true, true, true, true, false, true, true, false, false, false, false, false, false, false, false, false, false, false, false] rfl rfl (by kernel_rfl) (fun _ _ _ h => h) (Or.inl ⟨by rfl, ?_⟩) hHeld ?_ ?_
        rotate_left
        · intro w' hL'
          have c0 := blk_cell hL'.blk 0
          have c1 := blk_cell hL'.blk 1
          have c2 := blk_cell hL'.blk 2
          have c3 := blk_cell hL'.blk 3
          have c4 := blk_cell hL'.blk 4
          go_simp
          with_reducible rfl
        rotate_left
        · simp only [Act.put, List.setIfInBounds_toArray, List.set_cons_zero, List.set_cons_succ, i64_w, i32_w]
          rfl
        refine one_ (i := 28) (N := some 53) #[true, true, true, true, true, true, true, true, true, true, true, true, true, true, true, true, true, true, true, true, true, true, true, true, true, true, true, true, true, true, true, false, false, false, false, false, false, false, false, false, false, false, false] rfl rfl (by kernel_rfl) (by decide) (fun K hK => ?_)
        refine goes_ Tryd.func53 (by kernel_rfl) rfl #[.slice v.la v.l.length v.lc] (by rfl) rfl rfl (by simp only [List.map_toArray, List.map_cons, List.map_nil]; rfl) ?_
        refine (Nums_any v.la v.lc v.l _ (HOK.out.below hHeld.below).cl HOK.out.ll (by omega) HOK.out.il).mono ?_
        rw [show mkB (listB intB v.l) = R4 from H4.out]
        rintro e w' ⟨rfl, hb'⟩
        refine ⟨_, rfl, ?_⟩
        refine hK.out _ _ (hHeld.more hb') (fun hHeld => ?_)
        clear hK K
        refine norm_ (a' := ?_) ?_ ?_
        rotate_left
        · show Act.put _ (some 53) _ = _
          simp only [Act.put, List.setIfInBounds_toArray, List.set_cons_zero, List.set_cons_succ, i64_w, i32_w]
          rfl
        refine one_ (i := 31) (N := some 56) #[true, true, true, true, true, true, true, true, true, true, true, true, true, true, true, true, true, true, true, true, true, true, true, true, true, true, true, true, true, true, true, true, false, false, false, false, false, false, false, false, false, false, false] rfl rfl (by kernel_rfl) (by decide) (fun K hK => ?_)
        refine goes_ Tryd.func54 (by kernel_rfl) rfl #[.slice v.la v.l.length v.lc] (by rfl) rfl rfl (by simp only [List.map_toArray, List.map_cons, List.map_nil]; rfl) ?_
        refine (refNums_w v.la v.lc v.l _ (HOK.out.below hHeld.below).cl HOK.out.ll (by omega) HOK.out.il).mono ?_
        rw [H4.out]
        rintro e w' ⟨rfl, hb'⟩
        refine ⟨_, rfl, ?_⟩
        refine hK.out _ _ (hHeld.more hb') (fun hHeld => ?_)
        clear hK K
        refine norm_ (a' := ?_) ?_ ?_
        rotate_left
        · show Act.put _ (some 56) _ = _
          simp only [Act.put, List.setIfInBounds_toArray, List.set_cons_zero, List.set_cons_succ, i64_w, i32_w]
          rfl
        refine pure_ (i := 32) (N := some 57) (v := ?_) (a' := ?_) #[true, true, true, true, true, true, true, true, true, true, true, true, true, true, true, true, true, true, true, true, true, true, true, true, true, true, true, true, true, true, true, true, true, false, false, false, false, false, false, false, false, false, false] rfl rfl (by kernel_rfl) (fun _ _ _ h => h) (Or.inl ⟨by rfl, ?_⟩) ?_ ?_
        rotate_left
        · intro w'
          go_simp
          first | rfl | simp
        rotate_left
        · simp only [Act.put, List.setIfInBounds_toArray, List.set_cons_zero, List.set_cons_succ, i64_w, i32_w]
          rfl
        refine pure_ (i := 33) (N := some 58) (v := ?_) (a' := ?_) #[true, true, true, true, true, true, true, true, true, true, true, true, true, true, true, true, true, true, true, true, true, true, true, true, true, true, true, true, true, true, true, true, true, true, false, false, false, false, false, false, false, false, false] rfl rfl (by kernel_rfl) (fun _ _ _ h => h) (Or.inl ⟨by rfl, ?_⟩) ?_ ?_
        rotate_left
        · intro w'
          go_simp
          with_reducible rfl
        rotate_left
        · simp only [Act.put, List.setIfInBounds_toArray, List.set_cons_zero, List.set_cons_succ, i64_w, i32_w]
          rfl
        refine pure_ (i := 34) (N := some 59) (v := ?_) (a' := ?_) #[true, true, true, true, true, true, true, true, true, true, true, true, true, true, true, true, true, true, true, true, true, true, true, true, true, true, true, true, true, true, true, true, true, true, true, false, false, false, false, false, false, false, false] rfl rfl (by kernel_rfl) (fun _ _ _ h => h) (Or.inl ⟨by rfl, ?_⟩) ?_ ?_
        rotate_left
        · intro w'
          go_simp
          with_reducible rfl
        rotate_left
        · simp only [Act.put, List.setIfInBounds_toArray, List.set_cons_zero, List.set_cons_succ, i64_w, i32_w]
          rfl
        refine pure_ (i := 35) (N := some 60) (v := ?_) (a' := ?_) #[true, true, true, true, true, true, true, true, true, true, true, true, true, true, true, true, true, true, true, true, true, true, true, true, true, true, true, true, true, true, true, true, true, true, true, true, false, false, false, false, false, false, false] rfl rfl (by kernel_rfl) (fun _ _ _ h => h) (Or.inl ⟨by rfl, ?_⟩) ?_ ?_
        rotate_left
        · intro w'
          go_simp
          with_reducible rfl
        rotate_left
        · simp only [Act.put, List.setIfInBounds_toArray, List.set_cons_zero, List.set_cons_succ, i64_w, i32_w]
          rfl
        refine take_ (i := 36) (N := some 61) (v := ?_) (a' := ?_) #[true, true, true, true, true, true, true, true, true, true, true, true, true, true, true, true, true, true, true, true, true, true, true, true, true, true, true, true, true, true, true, true, true, true, true, true, true, false, false, false, false, false, false] rfl rfl (by kernel_rfl) (fun _ _ _ h => h) (Or.inl ⟨by rfl, ?_⟩) hHeld ?_ ?_
        rotate_left
        · intro w' hL'
          have c0 := blk_cell hL'.blk 0
          have c1 := blk_cell hL'.blk 1
          have c2 := blk_cell hL'.blk 2
          have c3 := blk_cell hL'.blk 3
          have c4 := blk_cell hL'.blk 4
          go_simp
          with_reducible rfl
        rotate_left
        · simp only [Act.put, List.setIfInBounds_toArray, List.set_cons_zero, List.set_cons_succ, i64_w, i32_w]
          rfl
        refine pure_ (i := 38) (N := some 63) (v := ?_) (a' := ?_) #[true, true, true, true, true, true, true, true, true, true, true, true, true, true, true, true, true, true, true, true, true, true, true, true, true, true, true, true, true, true, true, true, true, true, true, true, true, false, true, false, false, false, false] rfl rfl (by kernel_rfl) (fun _ _ _ h => h) (Or.inl ⟨by rfl, ?_⟩) ?_ ?_
        rotate_left
        · intro w'
          go_simp
          with_reducible rfl
        rotate_left
        · simp only [Act.put, List.setIfInBounds_toArray, List.set_cons_zero, List.set_cons_succ, i64_w, i32_w]
          rfl
        refine take_ (i := 39) (N := some 64) (v := ?_) (a' := ?_) #[true, true, true, true, true, true, true, true, true, true, true, true, true, true, true, true, true, true, true, true, true, true, true, true, true, true, true, true, true, true, true, true, true, true, true, true, true, false, true, true, false, false, false] rfl rfl (by kernel_rfl) (fun _ _ _ h => h) (Or.inl ⟨by rfl, ?_⟩) hHeld ?_ ?_
        rotate_left
        · intro w' hL'
          have c0 := blk_cell hL'.blk 0
          have c1 := blk_cell hL'.blk 1
          have c2 := blk_cell hL'.blk 2
          have c3 := blk_cell hL'.blk 3
          have c4 := blk_cell hL'.blk 4
          go_simp
          with_reducible rfl
        rotate_left
        · simp only [Act.put, List.setIfInBounds_toArray, List.set_cons_zero, List.set_cons_succ, i64_w, i32_w]
          rfl
        refine one_ (i := 37) (N := some 62) #[true, true, true, true, true, true, true, true, true, true, true, true, true, true, true, true, true, true, true, true, true, true, true, true, true, true, true, true, true, true, true, true, true, true, true, true, true, true, true, true, false, false, false] rfl rfl (by kernel_rfl) (by decide) (fun K hK => ?_)
        refine goes_ Tryd.func55 (by kernel_rfl) rfl #[.slice v.ta v.t.length v.tc] (by rfl) rfl rfl (by simp only [List.map_toArray, List.map_cons, List.map_nil]; rfl) ?_
        refine (Texts_any v.ta v.tc v.t _ (HOK.out.below hHeld.below).ct HOK.out.lt (by omega) (fun x hx => Nat.le_trans (HQ.out x hx) (by decide)) (HM.out.below (hB.out.trans (hHeld.below.mono hB.out.size)))).mono ?_
        rw [lists_listB, H5.out]
        rintro e w' ⟨rfl, hb'⟩
        refine ⟨_, rfl, ?_⟩
        refine hK.out _ _ (hHeld.more hb') (fun hHeld => ?_)
        clear hK K
        refine norm_ (a' := ?_) ?_ ?_
        rotate_left
        · show Act.put _ (some 62) _ = _
          simp only [Act.put, List.setIfInBounds_toArray, List.set_cons_zero, List.set_cons_succ, i64_w, i32_w]
          rfl
        refine one_ (i := 40) (N := some 65) #[true, true, true, true, true, true, true, true, true, true, true, true, true, true, true, true, true, true, true, true, true, true, true, true, true, true, true, true, true, true, true, true, true, true, true, true, true, true, true, true, true, false, false] rfl rfl (by kernel_rfl) (by decide) (fun K hK => ?_)
        refine goes_ Tryd.func56 (by kernel_rfl) rfl #[.slice v.ta v.t.length v.tc] (by rfl) rfl rfl (by simp only [List.map_toArray, List.map_cons, List.map_nil]; rfl) ?_
        refine (refTexts_w v.ta v.tc v.t _ (HOK.out.below hHeld.below).ct HOK.out.lt (by omega) (fun x hx => Nat.le_trans (HQ.out x hx) (by decide))).mono ?_
        rw [H5.out]
        rintro e w' ⟨rfl, hb'⟩
        refine ⟨_, rfl, ?_⟩
        refine hK.out _ _ (hHeld.more hb') (fun hHeld => ?_)
        clear hK K
        refine norm_ (a' := ?_) ?_ ?_
        rotate_left
        · show Act.put _ (some 65) _ = _
          simp only [Act.put, List.setIfInBounds_toArray, List.set_cons_zero, List.set_cons_succ, i64_w, i32_w]
          rfl
        refine pure_ (i := 41) (N := some 66) (v := ?_) (a' := ?_) #[true, true, true, true, true, true, true, true, true, true, true, true, true, true, true, true, true, true, true, true, true, true, true, true, true, true, true, true, true, true, true, true, true, true, true, true, true, true, true, true, true, true, false] rfl rfl (by kernel_rfl) (fun _ _ _ h => h) (Or.inl ⟨by rfl, ?_⟩) ?_ ?_
        rotate_left
        · intro w'
          go_simp
          first | rfl | simp
        rotate_left
        · simp only [Act.put, List.setIfInBounds_toArray, List.set_cons_zero, List.set_cons_succ, i64_w, i32_w]
          rfl
        refine pure_ (i := 42) (N := some 67) (v := ?_) (a' := ?_) #[true, true, true, true, true, true, true, true, true, true, true, true, true, true, true, true, true, true, true, true, true, true, true, true, true, true, true, true, true, true, true, true, true, true, true, true, true, true, true, true, true, true, true] rfl rfl (by kernel_rfl) (fun _ _ _ h => h) (Or.inl ⟨by rfl, ?_⟩) ?_ ?_
        rotate_left
        · intro w'
          go_simp
          with_reducible rfl
        rotate_left
        · simp only [Act.put, List.setIfInBounds_toArray, List.set_cons_zero, List.set_cons_succ, i64_w, i32_w]
          rfl
        refine done_ (by kernel_rfl) ?_
        go_wp2_with fail
        go_roundw
        case rel => exact ⟨k + 1, by omega, by go_num, Lib.hid (hB.out.trans (hHeld.below.mono hB.out.size))⟩
        case measure => simp [intOf]; omega
      · obtain rfl : k = l.length := by omega
        obtain ⟨R1, hR1⟩ : ∃ R, mkB (intB n) = R := ⟨_, rfl⟩
        have H1 := Lib.hid hR1; clear hR1
        go_wp2_with fail
        refine (Int_any n wr HN.out).mono ?_
        rw [H1.out]
        rintro e w3 ⟨rfl, b3⟩
        have B3 := Lib.hid (hB.out.trans (b3.mono hB.out.size)); clear b3
        go_wp2_with fail
        refine (refInt_w n w3 HN.out).mono ?_
        rw [H1.out]
        rintro e w4 ⟨rfl, b4⟩
        have B4 := Lib.hid (B3.out.trans (b4.mono B3.out.size)); clear b4
        go_wp2
        go_ret
        exact ⟨by simp, B4.out⟩
end Go.Proofs.YtdgejkiackeieaaDoor.Wr
end
section
set_option linter.unusedVariables false
set_option linter.unusedSimpArgs false
/- The walk of WireBack. -/
set_option linter.unusedVariables false
set_option linter.unusedSimpArgs false
namespace Go.Proofs.YtdgejkiackeieaaDoor.Wr
open Go.RowKit Go.Proofs.YtdgejkiackeieaaDoor Go.Proofs.YtdgejkiackeieaaDoor.PWr Go.Proofs.YtdgejkiackeieaaDoor.Gm Go.Proofs.YtdgejkiackeieaaDoorW.PrintWords Go.Proofs.YtdgejkiackeieaaDoorW.PrintMore Go.Proofs.YtdgejkiackeieaaDoorW.PrintLast
theorem back0 (n : Int) (h : InR n) (r : List UInt8) : rdr (intR (mkB (intB n ++ r)).data.toList) (0 : Int) false = (n, mkB r, false) := by rw [mkB_list, intR_intB n h]; rfl
theorem back1 (s : ByteArray) (r : List UInt8) : rdrS (textR (mkB (textB s.data.toList ++ r)).data.toList) false = (s, mkB r, false) := by rw [mkB_list, textR_textB]; rfl
theorem listB_ge {α : Type} (enc : α → List UInt8) : ∀ l : List α, l.length < (listB enc l).length
  | [] => by simp [listB]
  | x :: l => by have := listB_ge enc l; rw [listB_cons]; simp only [List.length_cons, List.length_append]; omega
theorem back2 (l : List Int) (h : ∀ x ∈ l, InR x) (r : List UInt8) : rdrL (fun (n : Int) => n) [] (numsR (mkB (numsB l ++ r)).data.toList) false = (l, mkB r, false) := by
  rw [mkB_list]
  unfold numsR numsB
  rw [listR_listB intB intR (l, r) (fun x hx r => intR_intB x (h x hx) r) _ (by have := listB_ge intB l; rw [List.length_append]; simp only; omega)]
  simp [rdrL]
theorem back3 (l : List ByteArray) (r : List UInt8) : rdrL mkB [] (textsR (mkB (textsB (lists l) ++ r)).data.toList) false = (l, mkB r, false) := by
  rw [mkB_list]
  unfold textsR textsB
  rw [listR_listB textB textR (lists l, r) (fun x hx r => textR_textB x r) _ (by have := listB_ge textB (lists l); rw [List.length_append]; simp only; omega)]
  have : (lists l).map mkB = l := by
    unfold lists
    rw [List.map_map]
    exact (List.map_congr_left (fun x _ => show mkB x.data.toList = x from ext_ rfl)).trans (List.map_id l)
  simp [rdrL, this]
theorem allB_drop (l : List V5) (k : Nat) (v : V5) (h : l[k]? = some v) : allB (l.drop k) = wrB v ++ allB (l.drop (k + 1)) := by
  obtain ⟨h1, e1⟩ := List.getElem?_eq_some_iff.1 h
  rw [List.drop_eq_getElem_cons h1, e1]; rfl
theorem ok_at {w : World} {A : Option Addr} {l : List V5} (h : Reads5 RV w A l) {k : Nat} {v : V5} (hv : l[k]? = some v) : v.ok w := by
  obtain ⟨h1, e1⟩ := List.getElem?_eq_some_iff.1 hv
  obtain ⟨ad, cs, _, ⟨_, hok⟩, _, _⟩ := h k h1
  rw [e1] at hok
  exact hok
/-- The reader so far. -/
structure Rb (w0 w : World) (g : Nat) (q : ByteArray) : Prop where
  is : IsS117 w0 w g q false
  below : Below w0.heap.size w0 w
  lt : g < w.heap.size
set_option maxHeartbeats 16000000 in
set_option maxRecDepth 100000 in
theorem WireBack_any (A : Option Addr) (c : Nat) (l : List V5) (s : ByteArray) (w : World) (hR : Reads5 RV w A l) (hc : l.length ≤ c) (hcm : c ≤ maxLen) (hM : MaxW w) : Calls Tryd.prog 20 #[.slice A l.length c, .string s] w fun e w' => e = .returned (.bool true) ∧ Below w.heap.size w w' := by
  have HR := Lib.hid hR; have HM := Lib.hid hM; have HCM := Lib.hid hcm
  clear hR hM hcm
  go_enter Tryd.func20, Tryd.ntmps20
  go_wp2_with fail
  refine (small_any w HM.out).mono ?_
  rintro e w1 ⟨rfl, b1⟩
  have B1 := Lib.hid b1; clear b1
  go_wp2_with fail
  refine (light_any A c l w1 (later5 HR.out B1.out) hc HCM.out).mono ?_
  intro e w2 hlp
  obtain ⟨b, rfl, hb, rfl⟩ := hlp
  cases b
  · go_wp2
    go_ret
    exact ⟨rfl, B1.out⟩
  · obtain ⟨h20, hl⟩ := hb rfl
    have HLT := Lib.hid hl
    have HCM' := HCM.out
    unfold maxLen at HCM'
    clear hb hl
    by_cases hs : s.size ≤ 500
    · have hs' : ¬ (500 : Int) < (s.size : Int) := by omega
      go_wp2_with fail
      refine (all_any A c l w2 (later5 HR.out B1.out) hc HCM.out h20 HLT.out (HM.out.below B1.out)).mono ?_
      obtain ⟨Q, hQ⟩ : ∃ Q, mkB (allB l) = Q := ⟨_, rfl⟩
      rw [hQ]
      rintro e w3 ⟨rfl, b3, hal⟩
      have hQz : Q.size ≤ 1200000 := by rw [← hQ, mkB_size]; exact hal
      have B3 := Lib.hid (B1.out.trans (b3.mono B1.out.size))
      have HQ := Lib.hid hQ
      clear b3 hal hQ
      go_wp2_with fail
      refine (ROpen_any (Q ++ s) w w3 B3.out).mono ?_
      rintro e w4 ⟨rfl, i4, b4, k4⟩
      have R4 : Hid (Rb w w4 w3.heap.size (Q ++ s)) := Lib.hid ⟨i4, b4, i4.lt⟩
      obtain ⟨g, hg⟩ : ∃ g, w3.heap.size = g := ⟨_, rfl⟩
      rw [hg] at R4
      rw [hg]
      clear i4 b4 k4 hg
      have hq0 : Hid (Q ++ s = mkB (allB (l.drop 0) ++ s.data.toList)) := Lib.hid (by rw [← HQ.out, List.drop_zero, ← mkB_append])
      go_wp2_with fail
      go_loopw [8] (fun i wr => ∃ (k : Nat) (q : ByteArray), k ≤ l.length ∧ i = .int .i64 k ∧ Hid (q = mkB (allB (l.drop k) ++ s.data.toList)) ∧ q.size ≤ 1200500 ∧ Hid (Rb w wr g q)) (fun i _ => l.length - (intOf i).toNat)
      case atStart => exact ⟨0, Q ++ s, by omega, rfl, hq0, by rw [ByteArray.size_append]; omega, R4⟩
      case round =>
        obtain ⟨k, q, hk, rfl, hq, hqz, hB⟩ := hrel
        clear hq0 R4 HQ hQz
        by_cases hlt : k < l.length
        · obtain ⟨ad, v, rfl, hv, hvm, hok, hcs⟩ := value_at (later5 HR.out hB.out.below) k hlt
          have hlv := HLT.out v hvm
          obtain ⟨q1, q2, q3, q4⟩ := hlv
          have hqe : q = mkB (wrB v ++ (allB (l.drop (k + 1)) ++ s.data.toList)) := by rw [hq.out, allB_drop l k v hv, List.append_assoc]
          obtain ⟨q', hq'⟩ : ∃ q', mkB (allB (l.drop (k + 1)) ++ s.data.toList) = q' := ⟨_, rfl⟩
          have hq'z : q'.size ≤ 1200500 := by
            rw [hqe, mkB_size, List.length_append] at hqz
            rw [← hq', mkB_size]; omega
          unfold wrB at hqe
          have HOKW := Lib.hid (ok_at HR.out hv)
          have HOK := Lib.hid hok; have HQ4 := Lib.hid q4; have HQ' := Lib.hid hq'
          have c0 := hcs.c0; have c1 := hcs.c1; have c2 := hcs.c2; have c3 := hcs.c3; have c4 := hcs.c4
          clear hcs hok hv hvm q4 hq'
          go_upto_region 12 with fail
          clear c0 c1 c2 c3 c4
          obtain ⟨W, hW⟩ : ∃ W, (wr.alloc (Obj.cells #[Value.int .i64 v.k, Value.int .i64 v.n, Value.string v.s, Value.slice v.la v.l.length v.lc, Value.slice v.ta v.t.length v.tc] 50)) = W := ⟨_, rfl⟩
          obtain ⟨h, hh⟩ : ∃ g, wr.heap.size = g := ⟨_, rfl⟩
          have S0 : Hid (Ws wr W h v) := Lib.hid (by rw [← hW, ← hh]; exact ⟨heap_alloc_new wr _, (Below.refl _ _).alloc (Nat.le_refl _) _⟩)
          have hBW : Below w.heap.size w W := hB.out.below.trans (S0.out.below.mono hB.out.below.size)
          have R0 : Hid (Rb w W g q) := Lib.hid ⟨hB.out.is.below S0.out.below, hBW, Nat.lt_of_lt_of_le hB.out.lt S0.out.below.size⟩
          have hgh : g ≠ h := by have := hB.out.lt; omega
          rw [hW, hh]
          clear hW hh hBW
          have HGH := Lib.hid hgh; clear hgh
          have c0 := blk_cell S0.out.blk 0
          by_cases h0 : kd v.k = 0
          · rw [if_pos h0] at hqe
            have k0 : (Go.bits .and .i64 v.k 3 == 0) = true := by unfold kd at h0; simpa using h0
            have HQE := Lib.hid hqe; clear hqe h0
            go_wp2_with fail
            have hrd : rdr (intR q.data.toList) (0 : Int) false = (v.n, q', false) := by rw [HQE.out, back0 v.n HOK.out.im, HQ'.out]
            have HRD := Lib.hid hrd; clear hrd
            refine start_ (n := 6) (S := fun w' => w'.heap[h]? = some (.cells #[.int .i64 v.k, .int .i64 v.n, .string v.s, .slice v.la v.l.length v.lc, .slice v.ta v.t.length v.tc] 50 (0, 0))) (ds := []) #[false, false, false, false, false, false] (by kernel_rfl) rfl rfl S0.out.blk (fun hHeld => ?_)
            refine pure_ (i := 0) (N := some 49) (v := ?_) (a' := ?_) #[true, false, false, false, false, false] rfl rfl (by kernel_rfl) (fun _ _ _ h => h) (Or.inl ⟨by rfl, ?_⟩) ?_ ?_
            rotate_left
            · intro w'
              go_simp
              with_reducible rfl
            rotate_left
            · simp only [Act.put, List.setIfInBounds_toArray, List.set_cons_zero, List.set_cons_succ, i64_w, i32_w]
              rfl
            refine pure_ (i := 2) (N := some 51) (v := ?_) (a' := ?_) #[true, false, true, false, false, false] rfl rfl (by kernel_rfl) (fun _ _ _ h => h) (Or.inl ⟨by rfl, ?_⟩) ?_ ?_
            rotate_left
            · intro w'
              go_simp
              with_reducible rfl
            rotate_left
            · simp only [Act.put, List.setIfInBounds_toArray, List.set_cons_zero, List.set_cons_succ, i64_w, i32_w]
              rfl
            refine take_ (i := 3) (N := some 52) (v := ?_) (a' := ?_) #[true, false, true, true, false, false] rfl rfl (by kernel_rfl) (fun _ _ _ h => h) (Or.inl ⟨by rfl, ?_⟩) hHeld ?_ ?_
            rotate_left
            · intro w' hL'
              have c0 := blk_cell hL' 0
              have c1 := blk_cell hL' 1
              have c2 := blk_cell hL' 2
              have c3 := blk_cell hL' 3
              have c4 := blk_cell hL' 4
              go_simp
              with_reducible rfl
            rotate_left
            · simp only [Act.put, List.setIfInBounds_toArray, List.set_cons_zero, List.set_cons_succ, i64_w, i32_w]
              rfl
            refine one_ (i := 1) (N := some 50) #[true, true, true, true, false, false] rfl rfl (by kernel_rfl) (by decide) (fun K hK => ?_)
            refine goes_ Tryd.func72 (by kernel_rfl) rfl #[.pointer (some ⟨g, 0, none⟩)] (by rfl) rfl rfl (by simp only [List.map_toArray, List.map_cons, List.map_nil]; rfl) ?_
            refine (RInt_any g q false w _ (R0.out.is.below (below_drew (Below.refl _ _))) (R0.out.below.trans ((below_drew (Below.refl _ W)).mono R0.out.below.size)) (by omega)).mono ?_
            rw [HRD.out]
            rintro e w5 ⟨rfl, h5⟩
            refine ⟨_, rfl, ?_⟩
            refine hK.out _ _ ((h5.keep.2 h (blk_lt hHeld) (Ne.symm HGH.out) (by simp)).trans hHeld) (fun hHeld => ?_)
            clear hK K
            refine norm_ (a' := ?_) ?_ ?_
            rotate_left
            · show Act.put _ (some 50) _ = _
              simp only [Act.put, List.setIfInBounds_toArray, List.set_cons_zero, List.set_cons_succ, i64_w, i32_w]
              rfl
            refine pure_ (i := 4) (N := some 53) (v := ?_) (a' := ?_) #[true, true, true, true, true, false] rfl rfl (by kernel_rfl) (fun _ _ _ h => h) (Or.inl ⟨by rfl, ?_⟩) ?_ ?_
            rotate_left
            · intro w'
              go_simp
              first | with_reducible rfl | simp
            rotate_left
            · simp only [Act.put, List.setIfInBounds_toArray, List.set_cons_zero, List.set_cons_succ, i64_w, i32_w]
              rfl
            refine pure_ (i := 5) (N := some 10) (v := ?_) (a' := ?_) #[true, true, true, true, true, true] rfl rfl (by kernel_rfl) (fun _ _ _ h => h) (Or.inl ⟨by rfl, ?_⟩) ?_ ?_
            rotate_left
            · intro w'
              go_simp
              with_reducible rfl
            rotate_left
            · simp only [Act.put, List.setIfInBounds_toArray, List.set_cons_zero, List.set_cons_succ, i64_w, i32_w]
              rfl
            refine done_ (by kernel_rfl) ?_
            have RF : Hid (Rb w w5 g q') := Lib.hid ⟨h5.is, h5.below, h5.is.lt⟩
            clear h5 hHeld
            clear c0
            go_wp2_with fail
            go_roundw
            case rel => exact ⟨k + 1, q', by omega, by go_num, Lib.hid HQ'.out.symm, hq'z, RF⟩
            case measure => simp [intOf]; omega
          · rw [if_neg h0] at hqe
            have k0 : (Go.bits .and .i64 v.k 3 == 0) = false := by unfold kd at h0; simpa using h0
            by_cases h1 : kd v.k = 1
            · rw [if_pos h1] at hqe
              have k1 : (Go.bits .and .i64 v.k 3 == 1) = true := by unfold kd at h1; simpa using h1
              have HQE := Lib.hid hqe; clear hqe h0 h1
              go_wp2_with fail
              have hrd : rdrS (textR q.data.toList) false = (v.s, q', false) := by rw [HQE.out, back1 v.s, HQ'.out]
              have HRD := Lib.hid hrd; clear hrd
              refine start_ (n := 6) (S := fun w' => w'.heap[h]? = some (.cells #[.int .i64 v.k, .int .i64 v.n, .string v.s, .slice v.la v.l.length v.lc, .slice v.ta v.t.length v.tc] 50 (0, 0))) (ds := []) #[false, false, false, false, false, false] (by kernel_rfl) rfl rfl S0.out.blk (fun hHeld => ?_)
              refine pure_ (i := 0) (N := some 56) (v := ?_) (a' := ?_) #[true, false, false, false, false, false] rfl rfl (by kernel_rfl) (fun _ _ _ h => h) (Or.inl ⟨by rfl, ?_⟩) ?_ ?_
              rotate_left
              · intro w'
                go_simp
                with_reducible rfl
              rotate_left
              · simp only [Act.put, List.setIfInBounds_toArray, List.set_cons_zero, List.set_cons_succ, i64_w, i32_w]
                rfl
              refine pure_ (i := 2) (N := some 58) (v := ?_) (a' := ?_) #[true, false, true, false, false, false] rfl rfl (by kernel_rfl) (fun _ _ _ h => h) (Or.inl ⟨by rfl, ?_⟩) ?_ ?_
              rotate_left
              · intro w'
                go_simp
                with_reducible rfl
              rotate_left
              · simp only [Act.put, List.setIfInBounds_toArray, List.set_cons_zero, List.set_cons_succ, i64_w, i32_w]
                rfl
              refine take_ (i := 3) (N := some 59) (v := ?_) (a' := ?_) #[true, false, true, true, false, false] rfl rfl (by kernel_rfl) (fun _ _ _ h => h) (Or.inl ⟨by rfl, ?_⟩) hHeld ?_ ?_
              rotate_left
              · intro w' hL'
                have c0 := blk_cell hL' 0
                have c1 := blk_cell hL' 1
                have c2 := blk_cell hL' 2
                have c3 := blk_cell hL' 3
                have c4 := blk_cell hL' 4
                go_simp
                with_reducible rfl
              rotate_left
              · simp only [Act.put, List.setIfInBounds_toArray, List.set_cons_zero, List.set_cons_succ, i64_w, i32_w]
                rfl
              refine one_ (i := 1) (N := some 57) #[true, true, true, true, false, false] rfl rfl (by kernel_rfl) (by decide) (fun K hK => ?_)
              refine goes_ Tryd.func74 (by kernel_rfl) rfl #[.pointer (some ⟨g, 0, none⟩)] (by rfl) rfl rfl (by simp only [List.map_toArray, List.map_cons, List.map_nil]; rfl) ?_
              refine (RText_any g q false w _ (R0.out.is.below (below_drew (Below.refl _ _))) (R0.out.below.trans ((below_drew (Below.refl _ W)).mono R0.out.below.size)) (by omega)).mono ?_
              rw [HRD.out]
              rintro e w5 ⟨rfl, h5⟩
              refine ⟨_, rfl, ?_⟩
              refine hK.out _ _ ((h5.keep.2 h (blk_lt hHeld) (Ne.symm HGH.out) (by simp)).trans hHeld) (fun hHeld => ?_)
              clear hK K
              refine norm_ (a' := ?_) ?_ ?_
              rotate_left
              · show Act.put _ (some 57) _ = _
                simp only [Act.put, List.setIfInBounds_toArray, List.set_cons_zero, List.set_cons_succ, i64_w, i32_w]
                rfl
              refine pure_ (i := 4) (N := some 60) (v := ?_) (a' := ?_) #[true, true, true, true, true, false] rfl rfl (by kernel_rfl) (fun _ _ _ h => h) (Or.inl ⟨by rfl, ?_⟩) ?_ ?_
              rotate_left
              · intro w'
                go_simp
                first | with_reducible rfl | simp
              rotate_left
              · simp only [Act.put, List.setIfInBounds_toArray, List.set_cons_zero, List.set_cons_succ, i64_w, i32_w]
                rfl
              refine pure_ (i := 5) (N := some 10) (v := ?_) (a' := ?_) #[true, true, true, true, true, true] rfl rfl (by kernel_rfl) (fun _ _ _ h => h) (Or.inl ⟨by rfl, ?_⟩) ?_ ?_
              rotate_left
              · intro w'
                go_simp
                with_reducible rfl
              rotate_left
              · simp only [Act.put, List.setIfInBounds_toArray, List.set_cons_zero, List.set_cons_succ, i64_w, i32_w]
                rfl
              refine done_ (by kernel_rfl) ?_
              have RF : Hid (Rb w w5 g q') := Lib.hid ⟨h5.is, h5.below, h5.is.lt⟩
              clear h5 hHeld
              clear c0
              go_wp2_with fail
              go_roundw
              case rel => exact ⟨k + 1, q', by omega, by go_num, Lib.hid HQ'.out.symm, hq'z, RF⟩
              case measure => simp [intOf]; omega
            · rw [if_neg h1] at hqe
              have k1 : (Go.bits .and .i64 v.k 3 == 1) = false := by unfold kd at h1; simpa using h1
              by_cases h2 : kd v.k = 2
              · rw [if_pos h2] at hqe
                have k2 : (Go.bits .and .i64 v.k 3 == 2) = true := by unfold kd at h2; simpa using h2
                have HQE := Lib.hid hqe; clear hqe h0 h1 h2
                go_wp2_with fail
                have hrd : rdrL (fun (n : Int) => n) [] (numsR q.data.toList) false = (v.l, q', false) := by rw [HQE.out, back2 v.l HOK.out.il, HQ'.out]
                have HRD := Lib.hid hrd; clear hrd
                refine start_ (n := 6) (S := fun w' => w'.heap[h]? = some (.cells #[.int .i64 v.k, .int .i64 v.n, .string v.s, .slice v.la v.l.length v.lc, .slice v.ta v.t.length v.tc] 50 (0, 0))) (ds := []) #[false, false, false, false, false, false] (by kernel_rfl) rfl rfl S0.out.blk (fun hHeld => ?_)
                refine pure_ (i := 0) (N := some 63) (v := ?_) (a' := ?_) #[true, false, false, false, false, false] rfl rfl (by kernel_rfl) (fun _ _ _ h => h) (Or.inl ⟨by rfl, ?_⟩) ?_ ?_
                rotate_left
                · intro w'
                  go_simp
                  with_reducible rfl
                rotate_left
                · simp only [Act.put, List.setIfInBounds_toArray, List.set_cons_zero, List.set_cons_succ, i64_w, i32_w]
                  rfl
                refine pure_ (i := 2) (N := some 65) (v := ?_) (a' := ?_) #[true, false, true, false, false, false] rfl rfl (by kernel_rfl) (fun _ _ _ h => h) (Or.inl ⟨by rfl, ?_⟩) ?_ ?_
                rotate_left
                · intro w'
                  go_simp
                  with_reducible rfl
                rotate_left
                · simp only [Act.put, List.setIfInBounds_toArray, List.set_cons_zero, List.set_cons_succ, i64_w, i32_w]
                  rfl
                refine take_ (i := 3) (N := some 66) (v := ?_) (a' := ?_) #[true, false, true, true, false, false] rfl rfl (by kernel_rfl) (fun _ _ _ h => h) (Or.inl ⟨by rfl, ?_⟩) hHeld ?_ ?_
                rotate_left
                · intro w' hL'
                  have c0 := blk_cell hL' 0
                  have c1 := blk_cell hL' 1
                  have c2 := blk_cell hL' 2
                  have c3 := blk_cell hL' 3
                  have c4 := blk_cell hL' 4
                  go_simp
                  with_reducible rfl
                rotate_left
                · simp only [Act.put, List.setIfInBounds_toArray, List.set_cons_zero, List.set_cons_succ, i64_w, i32_w]
                  rfl
                refine one_ (i := 1) (N := some 64) #[true, true, true, true, false, false] rfl rfl (by kernel_rfl) (by decide) (fun K hK => ?_)
                refine goes_ Tryd.func77 (by kernel_rfl) rfl #[.pointer (some ⟨g, 0, none⟩)] (by rfl) rfl rfl (by simp only [List.map_toArray, List.map_cons, List.map_nil]; rfl) ?_
                refine (RNums_any g q false (fun h => by cases h) w _ (R0.out.is.below (below_drew (Below.refl _ _))) (R0.out.below.trans ((below_drew (Below.refl _ W)).mono R0.out.below.size)) (by omega)).mono ?_
                rw [HRD.out]
                rintro e w5 ⟨v1, rfl, r1, h5⟩
                refine ⟨_, rfl, ?_⟩
                refine hK.out _ _ ((h5.keep.2 h (blk_lt hHeld) (Ne.symm HGH.out) (by simp)).trans hHeld) (fun hHeld => ?_)
                clear hK K
                refine norm_ (a' := ?_) ?_ ?_
                rotate_left
                · show Act.put _ (some 64) _ = _
                  simp only [Act.put, List.setIfInBounds_toArray, List.set_cons_zero, List.set_cons_succ, i64_w, i32_w]
                  rfl
                obtain ⟨A1, c1, rfl, hc1, hC1⟩ := Kd.R_reads r1
                refine one_ (i := 4) (N := some 67) #[true, true, true, true, true, false] rfl rfl (by kernel_rfl) (by decide) (fun K hK => ?_)
                refine goes_ Tryd.func76 (by kernel_rfl) rfl #[.slice A1 v.l.length c1, .slice v.la v.l.length v.lc] (by rfl) rfl rfl (by simp only [List.map_toArray, List.map_cons, List.map_nil]; rfl) ?_
                have hcv5 := Kd.C_below HOKW.out.cl h5.below
                refine (bourneref02_SameNums.calls (v.l.length + 1) A1 c1 v.l v.la v.lc v.l true _ hC1 hc1 hcv5 HOK.out.ll ((SameNums_eq v.l v.l (by omega)).trans (by rw [decide_eq_true rfl]))).mono ?_
                rintro e w6 ⟨rfl, hd⟩
                refine ⟨_, rfl, ?_⟩
                refine hK.out _ _ ((hd.below.block h (blk_lt hHeld)).trans hHeld) (fun hHeld => ?_)
                clear hK K
                refine norm_ (a' := ?_) ?_ ?_
                rotate_left
                · show Act.put _ (some 67) _ = _
                  simp only [Act.put, List.setIfInBounds_toArray, List.set_cons_zero, List.set_cons_succ, i64_w, i32_w]
                  rfl
                refine pure_ (i := 5) (N := some 10) (v := ?_) (a' := ?_) #[true, true, true, true, true, true] rfl rfl (by kernel_rfl) (fun _ _ _ h => h) (Or.inl ⟨by rfl, ?_⟩) ?_ ?_
                rotate_left
                · intro w'
                  go_simp
                  with_reducible rfl
                rotate_left
                · simp only [Act.put, List.setIfInBounds_toArray, List.set_cons_zero, List.set_cons_succ, i64_w, i32_w]
                  rfl
                refine done_ (by kernel_rfl) ?_
                have RF : Hid (Rb w w6 g q') := Lib.hid ⟨h5.is.below hd.below, h5.below.trans (hd.below.mono h5.below.size), (h5.is.below hd.below).lt⟩
                clear h5 hHeld r1 hc1 hC1
                clear c0
                go_wp2_with fail
                go_roundw
                case rel => exact ⟨k + 1, q', by omega, by go_num, Lib.hid HQ'.out.symm, hq'z, RF⟩
                case measure => simp [intOf]; omega
              · rw [if_neg h2] at hqe
                have k2 : (Go.bits .and .i64 v.k 3 == 2) = false := by unfold kd at h2; simpa using h2
                have HQE := Lib.hid hqe; clear hqe h0 h1 h2
                go_wp2_with fail
                have hrd : rdrL mkB [] (textsR q.data.toList) false = (v.t, q', false) := by rw [HQE.out, back3 v.t, HQ'.out]
                have HRD := Lib.hid hrd; clear hrd
                refine start_ (n := 6) (S := fun w' => w'.heap[h]? = some (.cells #[.int .i64 v.k, .int .i64 v.n, .string v.s, .slice v.la v.l.length v.lc, .slice v.ta v.t.length v.tc] 50 (0, 0))) (ds := []) #[false, false, false, false, false, false] (by kernel_rfl) rfl rfl S0.out.blk (fun hHeld => ?_)
                refine pure_ (i := 0) (N := some 42) (v := ?_) (a' := ?_) #[true, false, false, false, false, false] rfl rfl (by kernel_rfl) (fun _ _ _ h => h) (Or.inl ⟨by rfl, ?_⟩) ?_ ?_
                rotate_left
                · intro w'
                  go_simp
                  with_reducible rfl
                rotate_left
                · simp only [Act.put, List.setIfInBounds_toArray, List.set_cons_zero, List.set_cons_succ, i64_w, i32_w]
                  rfl
                refine pure_ (i := 2) (N := some 44) (v := ?_) (a' := ?_) #[true, false, true, false, false, false] rfl rfl (by kernel_rfl) (fun _ _ _ h => h) (Or.inl ⟨by rfl, ?_⟩) ?_ ?_
                rotate_left
                · intro w'
                  go_simp
                  with_reducible rfl
                rotate_left
                · simp only [Act.put, List.setIfInBounds_toArray, List.set_cons_zero, List.set_cons_succ, i64_w, i32_w]
                  rfl
                refine take_ (i := 3) (N := some 45) (v := ?_) (a' := ?_) #[true, false, true, true, false, false] rfl rfl (by kernel_rfl) (fun _ _ _ h => h) (Or.inl ⟨by rfl, ?_⟩) hHeld ?_ ?_
                rotate_left
                · intro w' hL'
                  have c0 := blk_cell hL' 0
                  have c1 := blk_cell hL' 1
                  have c2 := blk_cell hL' 2
                  have c3 := blk_cell hL' 3
                  have c4 := blk_cell hL' 4
                  go_simp
                  with_reducible rfl
                rotate_left
                · simp only [Act.put, List.setIfInBounds_toArray, List.set_cons_zero, List.set_cons_succ, i64_w, i32_w]
                  rfl
                refine one_ (i := 1) (N := some 43) #[true, true, true, true, false, false] rfl rfl (by kernel_rfl) (by decide) (fun K hK => ?_)
                refine goes_ Tryd.func80 (by kernel_rfl) rfl #[.pointer (some ⟨g, 0, none⟩)] (by rfl) rfl rfl (by simp only [List.map_toArray, List.map_cons, List.map_nil]; rfl) ?_
                refine (RTexts_any g q false (fun h => by cases h) w _ (R0.out.is.below (below_drew (Below.refl _ _))) (R0.out.below.trans ((below_drew (Below.refl _ W)).mono R0.out.below.size)) (by omega)).mono ?_
                rw [HRD.out]
                rintro e w5 ⟨v1, rfl, r1, h5⟩
                refine ⟨_, rfl, ?_⟩
                refine hK.out _ _ ((h5.keep.2 h (blk_lt hHeld) (Ne.symm HGH.out) (by simp)).trans hHeld) (fun hHeld => ?_)
                clear hK K
                refine norm_ (a' := ?_) ?_ ?_
                rotate_left
                · show Act.put _ (some 43) _ = _
                  simp only [Act.put, List.setIfInBounds_toArray, List.set_cons_zero, List.set_cons_succ, i64_w, i32_w]
                  rfl
                obtain ⟨A1, c1, rfl, hc1, hC1⟩ := Kd.R_reads r1
                refine one_ (i := 4) (N := some 46) #[true, true, true, true, true, false] rfl rfl (by kernel_rfl) (by decide) (fun K hK => ?_)
                refine goes_ Tryd.func79 (by kernel_rfl) rfl #[.slice A1 v.t.length c1, .slice v.ta v.t.length v.tc] (by rfl) rfl rfl (by simp only [List.map_toArray, List.map_cons, List.map_nil]; rfl) ?_
                have hcv5 := Kd.C_below HOKW.out.ct h5.below
                refine (bourneref02_SameTexts.calls (v.t.length + 1) A1 c1 v.t v.ta v.tc v.t true _ hC1 hc1 hcv5 HOK.out.lt ((SameTexts_eq v.t v.t (by omega)).trans (by rw [decide_eq_true rfl]))).mono ?_
                rintro e w6 ⟨rfl, hd⟩
                refine ⟨_, rfl, ?_⟩
                refine hK.out _ _ ((hd.below.block h (blk_lt hHeld)).trans hHeld) (fun hHeld => ?_)
                clear hK K
                refine norm_ (a' := ?_) ?_ ?_
                rotate_left
                · show Act.put _ (some 46) _ = _
                  simp only [Act.put, List.setIfInBounds_toArray, List.set_cons_zero, List.set_cons_succ, i64_w, i32_w]
                  rfl
                refine pure_ (i := 5) (N := some 10) (v := ?_) (a' := ?_) #[true, true, true, true, true, true] rfl rfl (by kernel_rfl) (fun _ _ _ h => h) (Or.inl ⟨by rfl, ?_⟩) ?_ ?_
                rotate_left
                · intro w'
                  go_simp
                  with_reducible rfl
                rotate_left
                · simp only [Act.put, List.setIfInBounds_toArray, List.set_cons_zero, List.set_cons_succ, i64_w, i32_w]
                  rfl
                refine done_ (by kernel_rfl) ?_
                have RF : Hid (Rb w w6 g q') := Lib.hid ⟨h5.is.below hd.below, h5.below.trans (hd.below.mono h5.below.size), (h5.is.below hd.below).lt⟩
                clear h5 hHeld r1 hc1 hC1
                clear c0
                go_wp2_with fail
                go_roundw
                case rel => exact ⟨k + 1, q', by omega, by go_num, Lib.hid HQ'.out.symm, hq'z, RF⟩
                case measure => simp [intOf]; omega
        · obtain rfl : k = l.length := by omega
          obtain rfl : q = s := by
            rw [hq.out, List.drop_length]
            exact ext_ rfl
          go_wp2_with fail
          refine (RLeft_any g q false w wr hB.out.is hB.out.below).mono ?_
          rintro e w5 ⟨rfl, rfl⟩
          go_wp2_with fail
          refine (RDone_any g q false w w5 hB.out.is hB.out.below).mono ?_
          rintro e w6 ⟨rfl, rfl⟩
          go_wp2
          go_ret
          exact ⟨by simp, hB.out.below⟩
    · have hs' : (500 : Int) < (s.size : Int) := by omega
      go_wp2
      go_ret
      exact ⟨rfl, B1.out⟩
end Go.Proofs.YtdgejkiackeieaaDoor.Wr
end
section
set_option linter.unusedVariables false
set_option linter.unusedSimpArgs false
/- The walk of WireReads: two readers side by side. -/
set_option linter.unusedVariables false
set_option linter.unusedSimpArgs false
namespace Go.Proofs.YtdgejkiackeieaaDoor.Wr
open Go.RowKit Go.Proofs.YtdgejkiackeieaaDoor Go.Proofs.YtdgejkiackeieaaDoor.PWr Go.Proofs.YtdgejkiackeieaaDoorW.PrintWords Go.Proofs.YtdgejkiackeieaaDoorW.PrintMore Go.Proofs.YtdgejkiackeieaaDoorW.PrintLast
/-- Two readers, one of each kind, that stand alike. -/
structure Two (w0 w : World) (g1 g2 : Nat) (q : ByteArray) (bad : Bool) : Prop where
  a : IsS117 w0 w g1 q bad
  b : IsS119 w0 w g2 q bad
  below : Below w0.heap.size w0 w
  ne : g1 ≠ g2
  ok : Okr q bad
  sz : q.size ≤ 1000
theorem Lf.other {w0 w w' : World} {g g2 : Nat} {s t : ByteArray} {bad b2 : Bool} (h : Lf w0 w w' g s bad) (k : IsS119 w0 w g2 t b2) (hne : g ≠ g2) : IsS119 w0 w' g2 t b2 := ⟨(h.keep.2 g2 k.lt (fun e => hne e.symm) (by simp)).trans k.1, k.2⟩
theorem Lg.other {w0 w w' : World} {g g2 : Nat} {s t : ByteArray} {bad b2 : Bool} (h : Lg w0 w w' g s bad) (k : IsS117 w0 w g2 t b2) (hne : g2 ≠ g) : IsS117 w0 w' g2 t b2 := ⟨(h.keep.2 g2 k.lt hne (by simp)).trans k.1, k.2⟩
theorem Two.step {w0 w w1 w2 : World} {g1 g2 : Nat} {q q' : ByteArray} {bad bad' : Bool} (T : Two w0 w g1 g2 q bad) (h1 : Lf w0 w w1 g1 q' bad') (h2 : Lg w0 w1 w2 g2 q' bad') (hok : Okr q' bad' ∧ q'.size ≤ 1000) : Two w0 w2 g1 g2 q' bad' :=
  ⟨h2.other h1.is T.ne, h2.is, h2.below, T.ne, hok.1, hok.2⟩
theorem Two.more {w0 w w1 : World} {g1 g2 : Nat} {q : ByteArray} {bad : Bool} (T : Two w0 w g1 g2 q bad) (h : Below w.heap.size w w1) : Two w0 w1 g1 g2 q bad :=
  ⟨T.a.below h, ⟨(h.block g2 T.b.lt).trans T.b.1, T.b.2⟩, T.below.trans (h.mono T.below.size), T.ne, T.ok, T.sz⟩
end Go.Proofs.YtdgejkiackeieaaDoor.Wr
end
section
set_option linter.unusedVariables false
set_option linter.unusedSimpArgs false
/- The walk of WireOnly: what a reader returns, written again, is what it has read. -/
set_option linter.unusedVariables false
set_option linter.unusedSimpArgs false
namespace Go.Proofs.YtdgejkiackeieaaDoor.Wr
open Go.RowKit Go.Proofs.YtdgejkiackeieaaDoor Go.Proofs.YtdgejkiackeieaaDoor.PWr Go.Proofs.YtdgejkiackeieaaDoorW.PrintWords Go.Proofs.YtdgejkiackeieaaDoorW.PrintMore Go.Proofs.YtdgejkiackeieaaDoorW.PrintLast
theorem begins_true (s t : ByteArray) (h : t.data.toList <+: s.data.toList) : t.size ≤ s.size ∧ s.extract 0 t.size = t := by
  have hl := h.length_le
  rw [len_size, len_size] at hl
  refine ⟨hl, ?_⟩
  rw [extract_take]
  apply ext_
  rw [mkB_list, ← len_size]
  exact (List.prefix_iff_eq_take.1 h).symm
theorem begins_false (s t : ByteArray) (h : ¬ t.data.toList <+: s.data.toList) : ¬ s.extract 0 t.size = t := by
  intro e
  refine h ?_
  rw [extract_take] at e
  have := congrArg (fun b => b.data.toList) e
  simp only [mkB_list] at this
  rw [← this]
  exact List.take_prefix _ _
set_option maxRecDepth 100000 in
theorem begins_any (s t : ByteArray) (w : World) : Calls Tryd.prog 60 #[.string s, .string t] w fun e w' => e = .returned (.bool (decide (t.data.toList <+: s.data.toList))) ∧ w' = w := by
  by_cases h : t.data.toList <+: s.data.toList
  · obtain ⟨h1, h2⟩ := begins_true s t h
    rw [decide_eq_true h]
    have i1 : (t.size : Int) ≤ (s.size : Int) := by omega
    obtain ⟨E, hE⟩ : ∃ E, s.extract 0 t.size = E := ⟨_, rfl⟩
    rw [hE] at h2
    have e1 : (E.toList == t.toList) = true := by rw [h2]; exact beq_self_eq_true _
    have HE := Lib.hid hE
    clear h h1 h2
    go_enter Tryd.func60, Tryd.ntmps60
    go_wp2
    go_ret
    exact ⟨by first | rfl | (simp [e1]; done), rfl⟩
  · have h2 := begins_false s t h
    rw [decide_eq_false h]
    by_cases h1 : t.size ≤ s.size
    · have i1 : (t.size : Int) ≤ (s.size : Int) := by omega
      obtain ⟨E, hE⟩ : ∃ E, s.extract 0 t.size = E := ⟨_, rfl⟩
      rw [hE] at h2
      have e1 : (E.toList == t.toList) = false := beq_eq_false_iff_ne.2 (fun h => h2 (ext_l h))
      have HE := Lib.hid hE
      clear h h2
      go_enter Tryd.func60, Tryd.ntmps60
      go_wp2
      go_ret
      exact ⟨by first | rfl | (simp [e1]; done), rfl⟩
    · have i1 : ¬ (t.size : Int) ≤ (s.size : Int) := by omega
      clear h h2
      go_enter Tryd.func60, Tryd.ntmps60
      go_wp2
      go_ret
      exact ⟨rfl, rfl⟩
/-- A reader that has not failed, and what it has read. -/
structure One (w0 w : World) (g : Nat) (S : List UInt8) (got q : ByteArray) : Prop where
  a : IsS117 w0 w g q false
  below : Below w0.heap.size w0 w
  read : S = got.data.toList ++ q.data.toList
end Go.Proofs.YtdgejkiackeieaaDoor.Wr
end
section
set_option linter.unusedVariables false
set_option linter.unusedSimpArgs false
/- The laws' own comparison of two values (layer 2). -/
set_option linter.unusedVariables false
set_option linter.unusedSimpArgs false
namespace Go.Proofs.YtdgejkiackeieaaDoor.Wr
open Go.RowKit Go.Proofs.YtdgejkiackeieaaDoor Go.Proofs.YtdgejkiackeieaaDoor.PWr Go.Proofs.YtdgejkiackeieaaDoorW.PrintWords Go.Proofs.YtdgejkiackeieaaDoorW.PrintMore Go.Proofs.YtdgejkiackeieaaDoorW.PrintLast
/-- Comparing two values of the first one's kind. -/
def cmpV (a b : V5) : Int := if kd a.k = 0 then cmpI a.n b.n else if kd a.k = 1 then cmpL a.s.data.toList b.s.data.toList else if kd a.k = 2 then cmpS cmpI a.l b.l else cmpS cmpL (lists a.t) (lists b.t)
theorem cmpS_step {α : Type} (c : α → α → Int) {xs ys : List α} {k : Nat} {x y : α} (hx : xs[k]? = some x) (hy : ys[k]? = some y) : cmpS c (xs.drop k) (ys.drop k) = if c x y = 0 then cmpS c (xs.drop (k + 1)) (ys.drop (k + 1)) else c x y := by
  obtain ⟨h1, e1⟩ := List.getElem?_eq_some_iff.1 hx
  obtain ⟨h2, e2⟩ := List.getElem?_eq_some_iff.1 hy
  rw [List.drop_eq_getElem_cons h1, List.drop_eq_getElem_cons h2, e1, e2]; rfl
theorem cmpS_end {α : Type} (c : α → α → Int) {xs ys : List α} {k : Nat} (h1 : k ≤ xs.length) (h2 : k ≤ ys.length) (h : k = xs.length ∨ k = ys.length) : cmpS c (xs.drop k) (ys.drop k) = cmpI xs.length ys.length := by
  rcases h with h | h
  · rw [show xs.drop k = [] from List.drop_eq_nil_of_le (by omega)]
    by_cases h3 : k = ys.length
    · rw [show ys.drop k = [] from List.drop_eq_nil_of_le (by omega), ← h, ← h3]; unfold cmpI; simp [cmpS]
    · cases hd : ys.drop k with
      | nil => have := congrArg List.length hd; rw [List.length_drop] at this; simp at this; omega
      | cons y t => unfold cmpI; rw [if_pos (by omega)]; rfl
  · rw [show ys.drop k = [] from List.drop_eq_nil_of_le (by omega)]
    by_cases h3 : k = xs.length
    · rw [show xs.drop k = [] from List.drop_eq_nil_of_le (by omega), ← h, ← h3]; unfold cmpI; simp [cmpS]
    · cases hd : xs.drop k with
      | nil => have := congrArg List.length hd; rw [List.length_drop] at this; simp at this; omega
      | cons y t => unfold cmpI; rw [if_neg (by omega), if_pos (by omega)]; rfl
/-- Two values that lie in blocks of the call's own. -/
structure Vs (w0 w : World) (g h : Nat) (a b : V5) : Prop where
  one : w.heap[g]? = some (.cells #[.int .i64 a.k, .int .i64 a.n, .string a.s, .slice a.la a.l.length a.lc, .slice a.ta a.t.length a.tc] 50 (0, 0))
  two : w.heap[h]? = some (.cells #[.int .i64 b.k, .int .i64 b.n, .string b.s, .slice b.la b.l.length b.lc, .slice b.ta b.t.length b.tc] 50 (0, 0))
  below : Below w0.heap.size w0 w
theorem Vs.more {w0 w w' : World} {g h : Nat} {a b : V5} (H : Vs w0 w g h a b) (hb : Below w.heap.size w w') : Vs w0 w' g h a b := ⟨(hb.block g (blk_lt H.one)).trans H.one, (hb.block h (blk_lt H.two)).trans H.two, H.below.trans (hb.mono H.below.size)⟩
set_option maxHeartbeats 8000000 in
set_option maxRecDepth 100000 in
theorem compare_num (a b : V5) (w : World) (ha : a.ok w) (hb : b.ok w) (h0 : kd a.k = 0) : Calls Tryd.prog 58 #[.agg #[.int .i64 a.k, .int .i64 a.n, .string a.s, .slice a.la a.l.length a.lc, .slice a.ta a.t.length a.tc], .agg #[.int .i64 b.k, .int .i64 b.n, .string b.s, .slice b.la b.l.length b.lc, .slice b.ta b.t.length b.tc]] w fun e w' => e = .returned (.int .i64 (cmpV a b)) ∧ Below w.heap.size w w' := by
  have HA := Lib.hid ha; have HB := Lib.hid hb
  obtain ⟨R, hR⟩ : ∃ R, cmpV a b = R := ⟨_, rfl⟩
  rw [hR]
  unfold cmpV at hR
  rw [if_pos h0] at hR
  have HR := Lib.hid hR
  have k0 : (Go.bits .and .i64 a.k 3 == 0) = true := by unfold kd at h0; simpa using h0
  clear ha hb hR h0
  go_enter Tryd.func58, Tryd.ntmps58
  go_upto_region 1 with fail
  obtain ⟨W, hW⟩ : ∃ W, ((w.alloc (Obj.cells #[Value.int .i64 a.k, Value.int .i64 a.n, Value.string a.s, Value.slice a.la a.l.length a.lc, Value.slice a.ta a.t.length a.tc] 50)).alloc (Obj.cells #[Value.int .i64 b.k, Value.int .i64 b.n, Value.string b.s, Value.slice b.la b.l.length b.lc, Value.slice b.ta b.t.length b.tc] 50)) = W := ⟨_, rfl⟩
  obtain ⟨g, hg⟩ : ∃ g, w.heap.size = g := ⟨_, rfl⟩
  obtain ⟨h, hh⟩ : ∃ h, g + 1 = h := ⟨_, rfl⟩
  have V0 : Hid (Vs w W g h a b) := Lib.hid (by
    have hB : Below w.heap.size w W := by rw [← hW]; exact ((Below.refl _ _).alloc (Nat.le_refl _) _).alloc (by simp) _
    refine ⟨?_, ?_, hB⟩
    · rw [← hW, ← hg]; exact (((Below.refl _ (w.alloc _)).alloc (Nat.le_refl _) _).block w.heap.size (by simp)).trans (heap_alloc_new w _)
    · rw [← hW, ← hh, ← hg]; simpa using heap_alloc_new (w.alloc _) _)
  rw [hW, hg, hh]
  clear hW hg hh
  have a0 := blk_cell V0.out.one 0; have a1 := blk_cell V0.out.one 1; have a2 := blk_cell V0.out.one 2; have a3 := blk_cell V0.out.one 3; have a4 := blk_cell V0.out.one 4
  have b0 := blk_cell V0.out.two 0; have b1 := blk_cell V0.out.two 1; have b2 := blk_cell V0.out.two 2; have b3 := blk_cell V0.out.two 3; have b4 := blk_cell V0.out.two 4
  go_wp2_with fail
  clear a0 a1 a2 a3 a4 b0 b1 b2 b3 b4
  refine (number_any a.n b.n W).mono ?_
  rw [HR.out]
  rintro e w1 ⟨rfl, rfl⟩
  go_wp2
  go_ret
  exact ⟨rfl, V0.out.below⟩
set_option maxHeartbeats 8000000 in
set_option maxRecDepth 100000 in
theorem compare_text (a b : V5) (w : World) (ha : a.ok w) (hb : b.ok w) (h0 : ¬ kd a.k = 0) (h1 : kd a.k = 1) : Calls Tryd.prog 58 #[.agg #[.int .i64 a.k, .int .i64 a.n, .string a.s, .slice a.la a.l.length a.lc, .slice a.ta a.t.length a.tc], .agg #[.int .i64 b.k, .int .i64 b.n, .string b.s, .slice b.la b.l.length b.lc, .slice b.ta b.t.length b.tc]] w fun e w' => e = .returned (.int .i64 (cmpV a b)) ∧ Below w.heap.size w w' := by
  have HA := Lib.hid ha; have HB := Lib.hid hb
  obtain ⟨R, hR⟩ : ∃ R, cmpV a b = R := ⟨_, rfl⟩
  rw [hR]
  unfold cmpV at hR
  rw [if_neg h0, if_pos h1] at hR
  have HR := Lib.hid hR
  have k0 : (Go.bits .and .i64 a.k 3 == 0) = false := by unfold kd at h0; simpa using h0
  have k1 : (Go.bits .and .i64 a.k 3 == 1) = true := by unfold kd at h1; simpa using h1
  clear ha hb hR h0 h1
  go_enter Tryd.func58, Tryd.ntmps58
  go_upto_region 1 with fail
  obtain ⟨W, hW⟩ : ∃ W, ((w.alloc (Obj.cells #[Value.int .i64 a.k, Value.int .i64 a.n, Value.string a.s, Value.slice a.la a.l.length a.lc, Value.slice a.ta a.t.length a.tc] 50)).alloc (Obj.cells #[Value.int .i64 b.k, Value.int .i64 b.n, Value.string b.s, Value.slice b.la b.l.length b.lc, Value.slice b.ta b.t.length b.tc] 50)) = W := ⟨_, rfl⟩
  obtain ⟨g, hg⟩ : ∃ g, w.heap.size = g := ⟨_, rfl⟩
  obtain ⟨h, hh⟩ : ∃ h, g + 1 = h := ⟨_, rfl⟩
  have V0 : Hid (Vs w W g h a b) := Lib.hid (by
    have hB : Below w.heap.size w W := by rw [← hW]; exact ((Below.refl _ _).alloc (Nat.le_refl _) _).alloc (by simp) _
    refine ⟨?_, ?_, hB⟩
    · rw [← hW, ← hg]; exact (((Below.refl _ (w.alloc _)).alloc (Nat.le_refl _) _).block w.heap.size (by simp)).trans (heap_alloc_new w _)
    · rw [← hW, ← hh, ← hg]; simpa using heap_alloc_new (w.alloc _) _)
  rw [hW, hg, hh]
  clear hW hg hh
  have a0 := blk_cell V0.out.one 0; have a1 := blk_cell V0.out.one 1; have a2 := blk_cell V0.out.one 2; have a3 := blk_cell V0.out.one 3; have a4 := blk_cell V0.out.one 4
  have b0 := blk_cell V0.out.two 0; have b1 := blk_cell V0.out.two 1; have b2 := blk_cell V0.out.two 2; have b3 := blk_cell V0.out.two 3; have b4 := blk_cell V0.out.two 4
  go_wp2_with fail
  clear a0 a1 a2 a3 a4 b0 b1 b2 b3 b4
  refine (text_any a.s b.s W).mono ?_
  rw [HR.out]
  rintro e w1 ⟨rfl, rfl⟩
  go_wp2
  go_ret
  exact ⟨rfl, V0.out.below⟩
set_option maxHeartbeats 8000000 in
set_option maxRecDepth 100000 in
theorem compare_nums (a b : V5) (w : World) (ha : a.ok w) (hb : b.ok w) (h0 : ¬ kd a.k = 0) (h1 : ¬ kd a.k = 1) (h2 : kd a.k = 2) : Calls Tryd.prog 58 #[.agg #[.int .i64 a.k, .int .i64 a.n, .string a.s, .slice a.la a.l.length a.lc, .slice a.ta a.t.length a.tc], .agg #[.int .i64 b.k, .int .i64 b.n, .string b.s, .slice b.la b.l.length b.lc, .slice b.ta b.t.length b.tc]] w fun e w' => e = .returned (.int .i64 (cmpV a b)) ∧ Below w.heap.size w w' := by
  have HA := Lib.hid ha; have HB := Lib.hid hb
  obtain ⟨R, hR⟩ : ∃ R, cmpV a b = R := ⟨_, rfl⟩
  rw [hR]
  unfold cmpV at hR
  rw [if_neg h0, if_neg h1, if_pos h2] at hR
  have HR := Lib.hid hR
  have k0 : (Go.bits .and .i64 a.k 3 == 0) = false := by unfold kd at h0; simpa using h0
  have k1 : (Go.bits .and .i64 a.k 3 == 1) = false := by unfold kd at h1; simpa using h1
  have k2 : (Go.bits .and .i64 a.k 3 == 2) = true := by unfold kd at h2; simpa using h2
  have z1 := HA.out.cl.2.1
  have z2 := HB.out.cl.2.1
  clear ha hb hR h0 h1 h2
  go_enter Tryd.func58, Tryd.ntmps58
  go_upto_region 1 with fail
  obtain ⟨W, hW⟩ : ∃ W, ((w.alloc (Obj.cells #[Value.int .i64 a.k, Value.int .i64 a.n, Value.string a.s, Value.slice a.la a.l.length a.lc, Value.slice a.ta a.t.length a.tc] 50)).alloc (Obj.cells #[Value.int .i64 b.k, Value.int .i64 b.n, Value.string b.s, Value.slice b.la b.l.length b.lc, Value.slice b.ta b.t.length b.tc] 50)) = W := ⟨_, rfl⟩
  obtain ⟨g, hg⟩ : ∃ g, w.heap.size = g := ⟨_, rfl⟩
  obtain ⟨h, hh⟩ : ∃ h, g + 1 = h := ⟨_, rfl⟩
  have V0 : Hid (Vs w W g h a b) := Lib.hid (by
    have hB : Below w.heap.size w W := by rw [← hW]; exact ((Below.refl _ _).alloc (Nat.le_refl _) _).alloc (by simp) _
    refine ⟨?_, ?_, hB⟩
    · rw [← hW, ← hg]; exact (((Below.refl _ (w.alloc _)).alloc (Nat.le_refl _) _).block w.heap.size (by simp)).trans (heap_alloc_new w _)
    · rw [← hW, ← hh, ← hg]; simpa using heap_alloc_new (w.alloc _) _)
  rw [hW, hg, hh]
  clear hW hg hh
  have a0 := blk_cell V0.out.one 0; have a1 := blk_cell V0.out.one 1; have a2 := blk_cell V0.out.one 2; have a3 := blk_cell V0.out.one 3; have a4 := blk_cell V0.out.one 4
  have b0 := blk_cell V0.out.two 0; have b1 := blk_cell V0.out.two 1; have b2 := blk_cell V0.out.two 2; have b3 := blk_cell V0.out.two 3; have b4 := blk_cell V0.out.two 4
  go_wp2_with fail
  clear a0 a1 a2 a3 a4 b0 b1 b2 b3 b4
  go_loopw [5] (fun i wr => ∃ k : Nat, k ≤ a.l.length ∧ k ≤ b.l.length ∧ i = .int .i64 k ∧ Hid (cmpS cmpI (a.l.drop k) (b.l.drop k) = R) ∧ Hid (Vs w wr g h a b)) (fun i _ => a.l.length - (intOf i).toNat)
  case atStart => exact ⟨0, by omega, by omega, rfl, Lib.hid (by rw [List.drop_zero, List.drop_zero]; exact HR.out), V0⟩
  case round =>
    obtain ⟨k, hk1, hk2, rfl, hE, hV⟩ := hrel
    by_cases ht : k < a.l.length ∧ k < b.l.length
    · obtain ⟨t1, t2⟩ := ht
      obtain ⟨ad, e1, x1⟩ := Kd.at_int (Kd.C_below HA.out.cl hV.out.below) (k : Int) (by omega) (by omega)
      obtain ⟨ad', e2, x2⟩ := Kd.at_int (Kd.C_below HB.out.cl hV.out.below) (k : Int) (by omega) (by omega)
      rw [Int.toNat_natCast] at x1 x2
      rw [rd_nat k t1] at x1
      rw [rd_nat k t2] at x2
      obtain ⟨x, hx⟩ : ∃ x, a.l[k] = x := ⟨_, rfl⟩
      obtain ⟨y, hy⟩ : ∃ y, b.l[k] = y := ⟨_, rfl⟩
      rw [hx] at x1
      rw [hy] at x2
      have hs := cmpS_step cmpI (k := k) (List.getElem?_eq_some_iff.2 ⟨t1, hx⟩) (List.getElem?_eq_some_iff.2 ⟨t2, hy⟩)
      have a3 := blk_cell hV.out.one 3
      have b3 := blk_cell hV.out.two 3
      have a3' : wr.cell? ⟨g, 3, none⟩ = some (.slice (some ad) a.l.length a.lc) := by rw [a3]; show some (Value.slice a.la _ _) = _; rw [e1]
      have b3' : wr.cell? ⟨h, 3, none⟩ = some (.slice (some ad') b.l.length b.lc) := by rw [b3]; show some (Value.slice b.la _ _) = _; rw [e2]
      rw [hE.out] at hs
      have HS := Lib.hid hs
      have hc1 := HA.out.ll
      have hc2 := HB.out.ll
      clear a3 b3 e1 e2 hx hy hs
      by_cases he : x = y
      · have hE2 : Hid (cmpS cmpI (a.l.drop (k + 1)) (b.l.drop (k + 1)) = R) := Lib.hid (by have h1 := HS.out; rw [if_pos (cmpI_zero.2 he)] at h1; exact h1.symm)
        have hb1 : (x != y) = false := by simpa using he
        have hb2 : (x == y) = true := by simpa using he
        have HE := Lib.hid he
        clear he hE
        go_wp2_with fail
        go_quiet (fail)
        clear x1 x2 a3' b3' HE
        go_wp2_with fail
        go_roundw
        case rel => exact ⟨k + 1, by omega, by omega, by go_num, hE2, Lib.hid (hV.out.more (pw_below_drewN (Below.refl _ _) _))⟩
        case measure => simp [intOf]; omega
      · have hr : cmpI x y = R := by have h1 := HS.out; rw [if_neg (fun h => he (cmpI_zero.1 h))] at h1; exact h1.symm
        have HR2 := Lib.hid hr
        have hb1 : (x != y) = true := by simpa using he
        have hb2 : (x == y) = false := by simpa using he
        have HE := Lib.hid he
        clear he hE hr
        go_wp2_with fail
        go_quiet (fail)
        go_wp2_with fail
        generalize hW9 : World.drewN wr _ = W9
        have hB9 : Below w.heap.size w W9 := by rw [← hW9]; exact pw_below_drewN hV.out.below _
        rw [← show W9.cell? _ = wr.cell? _ from by rw [← hW9]; rfl] at x1 x2 a3' b3'
        clear hW9
        go_quiet ((go_at_call 113; exact Calls.quiet_of_same (number_any x y _)))
        go_wp2
        go_ret
        exact ⟨ret_int HR2.out, pw_below_drewN hB9 _⟩
    · have hend : k = a.l.length ∨ k = b.l.length := by omega
      have hr : cmpI (a.l.length : Int) (b.l.length : Int) = R := by have h1 := hE.out; rw [cmpS_end cmpI hk1 hk2 hend] at h1; exact h1
      have HR2 := Lib.hid hr
      have a3 := blk_cell hV.out.one 3
      have b3 := blk_cell hV.out.two 3
      clear hr
      by_cases h3 : k < a.l.length
      · have h4 : ¬ k < b.l.length := by omega
        go_wp2_with fail
        refine (number_any (a.l.length : Int) (b.l.length : Int) wr).mono ?_
        rw [HR2.out]
        rintro e w1 ⟨rfl, rfl⟩
        go_wp2
        go_ret
        exact ⟨rfl, hV.out.below⟩
      · go_wp2_with fail
        refine (number_any (a.l.length : Int) (b.l.length : Int) wr).mono ?_
        rw [HR2.out]
        rintro e w1 ⟨rfl, rfl⟩
        go_wp2
        go_ret
        exact ⟨rfl, hV.out.below⟩
theorem lists_len (l : List ByteArray) : (lists l).length = l.length := List.length_map ..
theorem Gm_ext {x y : ByteArray} (h : x.toList = y.toList) : x = y := by rw [ByteArray.toList_eq, ByteArray.toList_eq] at h; exact ext_ h
set_option maxHeartbeats 8000000 in
set_option maxRecDepth 100000 in
theorem compare_texts (a b : V5) (w : World) (ha : a.ok w) (hb : b.ok w) (h0 : ¬ kd a.k = 0) (h1 : ¬ kd a.k = 1) (h2 : ¬ kd a.k = 2) : Calls Tryd.prog 58 #[.agg #[.int .i64 a.k, .int .i64 a.n, .string a.s, .slice a.la a.l.length a.lc, .slice a.ta a.t.length a.tc], .agg #[.int .i64 b.k, .int .i64 b.n, .string b.s, .slice b.la b.l.length b.lc, .slice b.ta b.t.length b.tc]] w fun e w' => e = .returned (.int .i64 (cmpV a b)) ∧ Below w.heap.size w w' := by
  have HA := Lib.hid ha; have HB := Lib.hid hb
  obtain ⟨R, hR⟩ : ∃ R, cmpV a b = R := ⟨_, rfl⟩
  rw [hR]
  unfold cmpV at hR
  rw [if_neg h0, if_neg h1, if_neg h2] at hR
  have HR := Lib.hid hR
  have k0 : (Go.bits .and .i64 a.k 3 == 0) = false := by unfold kd at h0; simpa using h0
  have k1 : (Go.bits .and .i64 a.k 3 == 1) = false := by unfold kd at h1; simpa using h1
  have k2 : (Go.bits .and .i64 a.k 3 == 2) = false := by unfold kd at h2; simpa using h2
  have z1 := HA.out.ct.2.1
  have z2 := HB.out.ct.2.1
  clear ha hb hR h0 h1 h2
  go_enter Tryd.func58, Tryd.ntmps58
  go_upto_region 1 with fail
  obtain ⟨W, hW⟩ : ∃ W, ((w.alloc (Obj.cells #[Value.int .i64 a.k, Value.int .i64 a.n, Value.string a.s, Value.slice a.la a.l.length a.lc, Value.slice a.ta a.t.length a.tc] 50)).alloc (Obj.cells #[Value.int .i64 b.k, Value.int .i64 b.n, Value.string b.s, Value.slice b.la b.l.length b.lc, Value.slice b.ta b.t.length b.tc] 50)) = W := ⟨_, rfl⟩
  obtain ⟨g, hg⟩ : ∃ g, w.heap.size = g := ⟨_, rfl⟩
  obtain ⟨h, hh⟩ : ∃ h, g + 1 = h := ⟨_, rfl⟩
  have V0 : Hid (Vs w W g h a b) := Lib.hid (by
    have hB : Below w.heap.size w W := by rw [← hW]; exact ((Below.refl _ _).alloc (Nat.le_refl _) _).alloc (by simp) _
    refine ⟨?_, ?_, hB⟩
    · rw [← hW, ← hg]; exact (((Below.refl _ (w.alloc _)).alloc (Nat.le_refl _) _).block w.heap.size (by simp)).trans (heap_alloc_new w _)
    · rw [← hW, ← hh, ← hg]; simpa using heap_alloc_new (w.alloc _) _)
  rw [hW, hg, hh]
  clear hW hg hh
  have a0 := blk_cell V0.out.one 0; have a1 := blk_cell V0.out.one 1; have a2 := blk_cell V0.out.one 2; have a3 := blk_cell V0.out.one 3; have a4 := blk_cell V0.out.one 4
  have b0 := blk_cell V0.out.two 0; have b1 := blk_cell V0.out.two 1; have b2 := blk_cell V0.out.two 2; have b3 := blk_cell V0.out.two 3; have b4 := blk_cell V0.out.two 4
  go_wp2_with fail
  clear a0 a1 a2 a3 a4 b0 b1 b2 b3 b4
  go_loopw [6] (fun i wr => ∃ k : Nat, k ≤ a.t.length ∧ k ≤ b.t.length ∧ i = .int .i64 k ∧ Hid (cmpS cmpL ((lists a.t).drop k) ((lists b.t).drop k) = R) ∧ Hid (Vs w wr g h a b)) (fun i _ => a.t.length - (intOf i).toNat)
  case atStart => exact ⟨0, by omega, by omega, rfl, Lib.hid (by rw [List.drop_zero, List.drop_zero]; exact HR.out), V0⟩
  case round =>
    obtain ⟨k, hk1, hk2, rfl, hE, hV⟩ := hrel
    by_cases ht : k < a.t.length ∧ k < b.t.length
    · obtain ⟨t1, t2⟩ := ht
      obtain ⟨ad, e1, x1⟩ := Kd.at_string (Kd.C_below HA.out.ct hV.out.below) (k : Int) (by omega) (by omega)
      obtain ⟨ad', e2, x2⟩ := Kd.at_string (Kd.C_below HB.out.ct hV.out.below) (k : Int) (by omega) (by omega)
      rw [Int.toNat_natCast] at x1 x2
      rw [rdOf_nat k t1] at x1
      rw [rdOf_nat k t2] at x2
      obtain ⟨x, hx⟩ : ∃ x, a.t[k] = x := ⟨_, rfl⟩
      obtain ⟨y, hy⟩ : ∃ y, b.t[k] = y := ⟨_, rfl⟩
      rw [hx] at x1
      rw [hy] at x2
      have hs := cmpS_step cmpL (xs := lists a.t) (ys := lists b.t) (k := k) (x := x.data.toList) (y := y.data.toList) (by unfold lists; rw [List.getElem?_map, List.getElem?_eq_some_iff.2 ⟨t1, hx⟩]; rfl) (by unfold lists; rw [List.getElem?_map, List.getElem?_eq_some_iff.2 ⟨t2, hy⟩]; rfl)
      have a3 := blk_cell hV.out.one 4
      have b3 := blk_cell hV.out.two 4
      have a3' : wr.cell? ⟨g, 4, none⟩ = some (.slice (some ad) a.t.length a.tc) := by rw [a3]; show some (Value.slice a.ta _ _) = _; rw [e1]
      have b3' : wr.cell? ⟨h, 4, none⟩ = some (.slice (some ad') b.t.length b.tc) := by rw [b3]; show some (Value.slice b.ta _ _) = _; rw [e2]
      rw [hE.out] at hs
      have HS := Lib.hid hs
      have hc1 := HA.out.lt
      have hc2 := HB.out.lt
      clear a3 b3 e1 e2 hx hy hs
      by_cases he : x = y
      · have hE2 : Hid (cmpS cmpL ((lists a.t).drop (k + 1)) ((lists b.t).drop (k + 1)) = R) := Lib.hid (by have h1 := HS.out; rw [if_pos ((cmpL_spec _ _).1.2 (congrArg (fun z : ByteArray => z.data.toList) he))] at h1; exact h1.symm)
        have hb2 : (x.toList == y.toList) = true := by rw [he]; simp
        have hb3 : x.toList = y.toList := by rw [he]
        have HE := Lib.hid he
        clear he hE
        go_wp2_with fail
        go_quiet (fail)
        clear x1 x2 a3' b3' HE
        go_wp2_with fail
        go_roundw
        case rel => exact ⟨k + 1, by omega, by omega, by go_num, hE2, Lib.hid (hV.out.more (pw_below_drewN (Below.refl _ _) _))⟩
        case measure => simp [intOf]; omega
      · have hr : cmpL x.data.toList y.data.toList = R := by have h1 := HS.out; rw [if_neg (fun h => he (ext_ ((cmpL_spec _ _).1.1 h)))] at h1; exact h1.symm
        have HR2 := Lib.hid hr
        have hb3 : ¬ x.toList = y.toList := fun e => he (Gm_ext e)
        have hb2 : (x.toList == y.toList) = false := beq_eq_false_iff_ne.2 hb3
        have HE := Lib.hid he
        clear he hE hr
        go_wp2_with fail
        go_quiet (fail)
        go_wp2_with fail
        generalize hW9 : World.drewN wr _ = W9
        have hB9 : Below w.heap.size w W9 := by rw [← hW9]; exact pw_below_drewN hV.out.below _
        rw [← show W9.cell? _ = wr.cell? _ from by rw [← hW9]; rfl] at x1 x2 a3' b3'
        clear hW9
        go_quiet ((go_at_call 59; exact Calls.quiet_of_same (text_any x y _)))
        go_wp2
        go_ret
        exact ⟨ret_int HR2.out, pw_below_drewN hB9 _⟩
    · have hend : k = a.t.length ∨ k = b.t.length := by omega
      have hr : cmpI (a.t.length : Int) (b.t.length : Int) = R := by have h1 := hE.out; rw [cmpS_end cmpL (by rw [lists_len]; exact hk1) (by rw [lists_len]; exact hk2) (by rw [lists_len, lists_len]; exact hend)] at h1; rw [lists_len, lists_len] at h1; exact h1
      have HR2 := Lib.hid hr
      have a3 := blk_cell hV.out.one 4
      have b3 := blk_cell hV.out.two 4
      clear hr
      by_cases h3 : k < a.t.length
      · have h4 : ¬ k < b.t.length := by omega
        go_wp2_with fail
        refine (number_any (a.t.length : Int) (b.t.length : Int) wr).mono ?_
        rw [HR2.out]
        rintro e w1 ⟨rfl, rfl⟩
        go_wp2
        go_ret
        exact ⟨rfl, hV.out.below⟩
      · go_wp2_with fail
        refine (number_any (a.t.length : Int) (b.t.length : Int) wr).mono ?_
        rw [HR2.out]
        rintro e w1 ⟨rfl, rfl⟩
        go_wp2
        go_ret
        exact ⟨rfl, hV.out.below⟩
theorem compare_any (a b : V5) (w : World) (ha : a.ok w) (hb : b.ok w) : Calls Tryd.prog 58 #[.agg #[.int .i64 a.k, .int .i64 a.n, .string a.s, .slice a.la a.l.length a.lc, .slice a.ta a.t.length a.tc], .agg #[.int .i64 b.k, .int .i64 b.n, .string b.s, .slice b.la b.l.length b.lc, .slice b.ta b.t.length b.tc]] w fun e w' => e = .returned (.int .i64 (cmpV a b)) ∧ Below w.heap.size w w' := by
  by_cases h0 : kd a.k = 0
  · exact compare_num a b w ha hb h0
  · by_cases h1 : kd a.k = 1
    · exact compare_text a b w ha hb h0 h1
    · by_cases h2 : kd a.k = 2
      · exact compare_nums a b w ha hb h0 h1 h2
      · exact compare_texts a b w ha hb h0 h1 h2
end Go.Proofs.YtdgejkiackeieaaDoor.Wr
end
section
set_option linter.unusedVariables false
set_option linter.unusedSimpArgs false
/- The walk of WireOrder. -/
set_option linter.unusedVariables false
set_option linter.unusedSimpArgs false
namespace Go.Proofs.YtdgejkiackeieaaDoor.Wr
open Go.RowKit Go.Proofs.YtdgejkiackeieaaDoor Go.Proofs.YtdgejkiackeieaaDoor.PWr Go.Proofs.YtdgejkiackeieaaDoor.Gm Go.Proofs.YtdgejkiackeieaaDoorW.PrintWords Go.Proofs.YtdgejkiackeieaaDoorW.PrintMore Go.Proofs.YtdgejkiackeieaaDoorW.PrintLast
theorem wrB_same {a b : V5} {w : World} (ha : a.ok w) (hb : b.ok w) (hk : kd a.k = kd b.k) (hc : cmpV a b = 0) : wrB a = wrB b := by
  unfold cmpV at hc
  unfold wrB
  rw [← hk]
  by_cases h0 : kd a.k = 0
  · rw [if_pos h0] at hc ⊢; rw [if_pos h0, cmpI_zero.1 hc]
  · rw [if_neg h0] at hc ⊢; rw [if_neg h0]
    by_cases h1 : kd a.k = 1
    · rw [if_pos h1] at hc ⊢; rw [if_pos h1, (cmpL_spec _ _).1.1 hc]
    · rw [if_neg h1] at hc ⊢; rw [if_neg h1]
      by_cases h2 : kd a.k = 2
      · rw [if_pos h2] at hc ⊢; rw [if_pos h2, cmpS_zero cmpI InR (fun _ _ _ _ h => cmpI_zero.1 h) a.l b.l ha.il hb.il hc]
      · rw [if_neg h2] at hc ⊢; rw [if_neg h2, cmpS_zero cmpL (fun _ => True) (fun x y _ _ h => (cmpL_spec x y).1.1 h) _ _ (fun _ _ => trivial) (fun _ _ => trivial) hc]
theorem wrB_diff {a b : V5} {w : World} (ha : a.ok w) (hb : b.ok w) (hk : kd a.k = kd b.k) (hc : cmpV a b ≠ 0) : Diff (cmpV a b) (wrB a) (wrB b) := by
  unfold cmpV at hc ⊢
  unfold wrB
  rw [← hk]
  by_cases h0 : kd a.k = 0
  · rw [if_pos h0] at hc; rw [if_pos h0, if_pos h0, if_pos h0]; exact cmpI_diff ha.im hb.im hc
  · rw [if_neg h0] at hc; rw [if_neg h0, if_neg h0, if_neg h0]
    by_cases h1 : kd a.k = 1
    · rw [if_pos h1] at hc; rw [if_pos h1, if_pos h1, if_pos h1]; exact text_diff _ _ hc
    · rw [if_neg h1] at hc; rw [if_neg h1, if_neg h1, if_neg h1]
      by_cases h2 : kd a.k = 2
      · rw [if_pos h2] at hc; rw [if_pos h2, if_pos h2, if_pos h2]; exact nums_diff _ _ ha.il hb.il hc
      · rw [if_neg h2] at hc; rw [if_neg h2, if_neg h2, if_neg h2]; exact texts_diff _ _ hc
theorem Diff.cmp {c : Int} {s t : List UInt8} (h : Diff c s t) : cmpL s t = c := by
  obtain ⟨s0, s1, s2⟩ := cmpL_spec s t
  rw [h.less] at s1
  have hne := h.ne
  rcases h.val with rfl | rfl
  · have : decide (cmpL s t = -1) = true := by rw [← s1]; rfl
    exact of_decide_eq_true this
  · rcases s2 with e | e | e
    · rw [e] at s1; exact absurd s1 (by decide)
    · exact absurd (s0.1 e) hne
    · exact e
theorem allB_split (l : List V5) (k : Nat) (v : V5) (h : l[k]? = some v) : allB l = allB (l.take k) ++ (wrB v ++ allB (l.drop (k + 1))) := by
  rw [← allB_drop l k v h]
  unfold allB
  rw [← List.flatMap_append, List.take_append_drop]
theorem Cells5.later {w w' : World} {a : Addr} {v : V5} (h : Cells5 w a v) (hb : Below w.heap.size w w') : Cells5 w' a v :=
  ⟨pw_cell_below hb h.c0, pw_cell_below hb h.c1, pw_cell_below hb h.c2, pw_cell_below hb h.c3, pw_cell_below hb h.c4⟩
structure Ob (w0 w : World) (p q : Addr) (x y : V5) : Prop where
  one : Cells5 w p x
  two : Cells5 w q y
  below : Below w0.heap.size w0 w
theorem Ob.more {w0 w w' : World} {p q : Addr} {x y : V5} (H : Ob w0 w p q x y) (hb : Below w.heap.size w w') : Ob w0 w' p q x y := ⟨H.one.later hb, H.two.later hb, H.below.trans (hb.mono H.below.size)⟩
set_option maxHeartbeats 16000000 in
set_option maxRecDepth 100000 in
theorem WireOrder_any (A : Option Addr) (c : Nat) (l : List V5) (A' : Option Addr) (c' : Nat) (l' : List V5) (w : World) (hR : Reads5 RV w A l) (hc : l.length ≤ c) (hcm : c ≤ maxLen) (hR' : Reads5 RV w A' l') (hc' : l'.length ≤ c') (hcm' : c' ≤ maxLen) (hM : MaxW w) : Calls Tryd.prog 12 #[.slice A l.length c, .slice A' l'.length c'] w fun e w' => e = .returned (.bool true) ∧ Below w.heap.size w w' := by
  have HR := Lib.hid hR; have HR' := Lib.hid hR'; have HM := Lib.hid hM; have HCM := Lib.hid hcm; have HCM' := Lib.hid hcm'
  unfold maxLen at hcm hcm'
  clear hR hR' hM
  go_enter Tryd.func12, Tryd.ntmps12
  go_wp2_with fail
  refine (small_any w HM.out).mono ?_
  rintro e w1 ⟨rfl, b1⟩
  have B1 := Lib.hid b1; clear b1
  go_wp2_with fail
  refine (light_any A c l w1 (later5 HR.out B1.out) hc HCM.out).mono ?_
  intro e w2 hlp
  obtain ⟨b, rfl, hb, rfl⟩ := hlp
  go_wp2_with fail
  refine (light_any A' c' l' w2 (later5 HR'.out B1.out) hc' HCM'.out).mono ?_
  intro e w3 hlp
  obtain ⟨b', rfl, hb', rfl⟩ := hlp
  cases b
  · cases b'
    · go_wp2
      go_ret
      exact ⟨rfl, B1.out⟩
    · go_wp2
      go_ret
      exact ⟨rfl, B1.out⟩
  · cases b'
    · go_wp2
      go_ret
      exact ⟨rfl, B1.out⟩
    · obtain ⟨h20, hl⟩ := hb rfl
      obtain ⟨h20', hl'⟩ := hb' rfl
      have HLT := Lib.hid hl; have HLT' := Lib.hid hl'
      clear hb hb' hl hl'
      go_wp2_with fail
      refine (all_any A c l w3 (later5 HR.out B1.out) hc HCM.out h20 HLT.out (HM.out.below B1.out)).mono ?_
      obtain ⟨S, hS⟩ : ∃ Q, mkB (allB l) = Q := ⟨_, rfl⟩
      rw [hS]
      rintro e w4 ⟨rfl, b4, hal⟩
      have B4 := Lib.hid (B1.out.trans (b4.mono B1.out.size))
      clear b4 hal
      go_wp2_with fail
      refine (all_any A' c' l' w4 (later5 HR'.out B4.out) hc' HCM'.out h20' HLT'.out (HM.out.below B4.out)).mono ?_
      obtain ⟨T, hT⟩ : ∃ Q, mkB (allB l') = Q := ⟨_, rfl⟩
      rw [hT]
      rintro e w5 ⟨rfl, b5, hal⟩
      have B5 := Lib.hid (B4.out.trans (b5.mono B4.out.size))
      have hSl : S.data.toList = allB l := by rw [← hS]
      have hTl : T.data.toList = allB l' := by rw [← hT]
      have HS := Lib.hid hSl; have HT := Lib.hid hTl
      clear b5 hal hS hT hSl hTl
      go_wp2_with fail
      go_loopw [10] (fun i wr => ∃ k : Nat, k ≤ l.length ∧ k ≤ l'.length ∧ i = .int .i64 k ∧ Hid (allB (l.take k) = allB (l'.take k)) ∧ Hid (Below w.heap.size w wr)) (fun i _ => l.length - (intOf i).toNat)
      case atStart => exact ⟨0, by omega, by omega, rfl, Lib.hid rfl, B5⟩
      case round =>
        obtain ⟨k, hk1, hk2, rfl, hE, hB⟩ := hrel
        by_cases ht : k < l.length ∧ k < l'.length
        · obtain ⟨t1, t2⟩ := ht
          obtain ⟨ad, x, rfl, hx, hxm, hokx, hcx⟩ := value_at (later5 HR.out hB.out) k t1
          obtain ⟨ad', y, rfl, hy, hym, hoky, hcy⟩ := value_at (later5 HR'.out hB.out) k t2
          have O0 : Hid (Ob w wr (ad.add (k * 5)) (ad'.add (k * 5)) x y) := Lib.hid ⟨hcx, hcy, hB.out⟩
          have HX := Lib.hid hx; have HY := Lib.hid hy; have HOX := Lib.hid hokx; have HOY := Lib.hid hoky
          have c0 := hcx.c0; have d0 := hcy.c0
          have i0 : (0 : Int) ≤ (k : Int) := by omega
          have i1 : (k : Int) < (l.length : Int) := by omega
          have i2 : (k : Int) < (l'.length : Int) := by omega
          clear hx hy hokx hoky hcx hcy hxm hym
          by_cases hkk : kd x.k = kd y.k
          · have hk3 : (Go.bits .and .i64 x.k 3 != Go.bits .and .i64 y.k 3) = false := by unfold kd at hkk; simpa using hkk
            have hk4 : (Go.bits .and .i64 x.k 3 == Go.bits .and .i64 y.k 3) = true := by unfold kd at hkk; simpa using hkk
            have HKK := Lib.hid hkk; clear hkk
            go_wp2_with fail
            go_quiet (fail)
            clear c0 d0 hk3 hk4
            go_wp2_with fail
            generalize hW9 : World.drewN wr _ = W9
            have O9 : Hid (Ob w W9 (ad.add (k * 5)) (ad'.add (k * 5)) x y) := Lib.hid (by rw [← hW9]; exact O0.out.more (pw_below_drewN (Below.refl _ _) _))
            have B9 : Hid (Below wr.heap.size wr W9) := Lib.hid (by rw [← hW9]; exact pw_below_drewN (Below.refl _ _) _)
            clear hW9
            refine start_ (n := 10) (S := fun w' => Ob w w' (ad.add (k * 5)) (ad'.add (k * 5)) x y) (ds := []) #[false, false, false, false, false, false, false, false, false, false] (by kernel_rfl) rfl rfl (O9.out.more (below_drew (Below.refl _ _))) (fun hHeld => ?_)
            refine pure_ (i := 0) (N := some 54) (v := ?_) (a' := ?_) #[true, false, false, false, false, false, false, false, false, false] rfl rfl (by kernel_rfl) (fun _ _ _ h => h) (Or.inl ⟨by rfl, ?_⟩) ?_ ?_
            rotate_left
            · intro w'
              go_simp
              with_reducible rfl
            rotate_left
            · simp only [Act.put, List.setIfInBounds_toArray, List.set_cons_zero, List.set_cons_succ, i64_w, i32_w]
              rfl
            refine pure_ (i := 1) (N := some 55) (v := ?_) (a' := ?_) #[true, true, false, false, false, false, false, false, false, false] rfl rfl (by kernel_rfl) (fun _ _ _ h => h) (Or.inl ⟨by rfl, ?_⟩) ?_ ?_
            rotate_left
            · intro w'
              go_simp
              with_reducible rfl
            rotate_left
            · simp only [Act.put, List.setIfInBounds_toArray, List.set_cons_zero, List.set_cons_succ, i64_w, i32_w]
              rfl
            refine pure_ (i := 2) (N := some 56) (v := ?_) (a' := ?_) #[true, true, true, false, false, false, false, false, false, false] rfl rfl (by kernel_rfl) (fun _ _ _ h => h) (Or.inl ⟨by rfl, ?_⟩) ?_ ?_
            rotate_left
            · intro w'
              have j0 := i0
              have j1 := i1
              go_simp
              with_reducible rfl
            rotate_left
            · simp only [Act.put, List.setIfInBounds_toArray, List.set_cons_zero, List.set_cons_succ, i64_w, i32_w]
              rfl
            refine take_ (i := 3) (N := some 57) (v := ?_) (a' := ?_) #[true, true, true, true, false, false, false, false, false, false] rfl rfl (by kernel_rfl) (fun _ _ _ h => h) (Or.inl ⟨by rfl, ?_⟩) hHeld ?_ ?_
            rotate_left
            · intro w' hL'
              have c0 := hL'.one.c0
              have c1 := hL'.one.c1
              have c2 := hL'.one.c2
              have c3 := hL'.one.c3
              have c4 := hL'.one.c4
              go_simp
              with_reducible rfl
            rotate_left
            · simp only [Act.put, List.setIfInBounds_toArray, List.set_cons_zero, List.set_cons_succ, i64_w, i32_w]
              rfl
            refine pure_ (i := 4) (N := some 58) (v := ?_) (a' := ?_) #[true, true, true, true, true, false, false, false, false, false] rfl rfl (by kernel_rfl) (fun _ _ _ h => h) (Or.inl ⟨by rfl, ?_⟩) ?_ ?_
            rotate_left
            · intro w'
              go_simp
              with_reducible rfl
            rotate_left
            · simp only [Act.put, List.setIfInBounds_toArray, List.set_cons_zero, List.set_cons_succ, i64_w, i32_w]
              rfl
            refine pure_ (i := 5) (N := some 59) (v := ?_) (a' := ?_) #[true, true, true, true, true, true, false, false, false, false] rfl rfl (by kernel_rfl) (fun _ _ _ h => h) (Or.inl ⟨by rfl, ?_⟩) ?_ ?_
            rotate_left
            · intro w'
              go_simp
              with_reducible rfl
            rotate_left
            · simp only [Act.put, List.setIfInBounds_toArray, List.set_cons_zero, List.set_cons_succ, i64_w, i32_w]
              rfl
            refine pure_ (i := 6) (N := some 60) (v := ?_) (a' := ?_) #[true, true, true, true, true, true, true, false, false, false] rfl rfl (by kernel_rfl) (fun _ _ _ h => h) (Or.inl ⟨by rfl, ?_⟩) ?_ ?_
            rotate_left
            · intro w'
              have j0 := i0
              have j1 := i2
              go_simp
              with_reducible rfl
            rotate_left
            · simp only [Act.put, List.setIfInBounds_toArray, List.set_cons_zero, List.set_cons_succ, i64_w, i32_w]
              rfl
            refine take_ (i := 7) (N := some 61) (v := ?_) (a' := ?_) #[true, true, true, true, true, true, true, true, false, false] rfl rfl (by kernel_rfl) (fun _ _ _ h => h) (Or.inl ⟨by rfl, ?_⟩) hHeld ?_ ?_
            rotate_left
            · intro w' hL'
              have c0 := hL'.two.c0
              have c1 := hL'.two.c1
              have c2 := hL'.two.c2
              have c3 := hL'.two.c3
              have c4 := hL'.two.c4
              go_simp
              with_reducible rfl
            rotate_left
            · simp only [Act.put, List.setIfInBounds_toArray, List.set_cons_zero, List.set_cons_succ, i64_w, i32_w]
              rfl
            refine one_ (i := 8) (N := some 62) #[true, true, true, true, true, true, true, true, true, false] rfl rfl (by kernel_rfl) (by decide) (fun K hK => ?_)
            refine goes_ Tryd.func58 (by kernel_rfl) rfl #[.agg #[.int .i64 x.k, .int .i64 x.n, .string x.s, .slice x.la x.l.length x.lc, .slice x.ta x.t.length x.tc], .agg #[.int .i64 y.k, .int .i64 y.n, .string y.s, .slice y.la y.l.length y.lc, .slice y.ta y.t.length y.tc]] (by rfl) rfl rfl (by simp only [List.map_toArray, List.map_cons, List.map_nil]; rfl) ?_
            refine (compare_any x y _ (HOX.out.below (B9.out.trans ((below_drew (Below.refl _ W9)).mono B9.out.size))) (HOY.out.below (B9.out.trans ((below_drew (Below.refl _ W9)).mono B9.out.size)))).mono ?_
            rintro e w' ⟨rfl, hb'⟩
            refine ⟨_, rfl, ?_⟩
            refine hK.out _ _ (hHeld.more hb') (fun hHeld => ?_)
            clear hK K
            refine norm_ (a' := ?_) ?_ ?_
            rotate_left
            · show Act.put _ (some 62) _ = _
              simp only [Act.put, List.setIfInBounds_toArray, List.set_cons_zero, List.set_cons_succ, i64_w, i32_w]
              rfl
            refine pure_ (i := 9) (N := some 11) (v := ?_) (a' := ?_) #[true, true, true, true, true, true, true, true, true, true] rfl rfl (by kernel_rfl) (fun _ _ _ h => h) (Or.inl ⟨by rfl, ?_⟩) ?_ ?_
            rotate_left
            · intro w'
              go_simp
              with_reducible rfl
            rotate_left
            · simp only [Act.put, List.setIfInBounds_toArray, List.set_cons_zero, List.set_cons_succ, i64_w, i32_w]
              rfl
            refine done_ (by kernel_rfl) ?_
            by_cases hc0 : cmpV x y = 0
            · have hE2 : Hid (allB (l.take (k + 1)) = allB (l'.take (k + 1))) := Lib.hid (by rw [allB_take l k x HX.out, allB_take l' k y HY.out, hE.out, wrB_same HOX.out HOY.out HKK.out hc0])
              have hb1 : (cmpV x y != 0) = false := by simpa using hc0
              have hb2 : (cmpV x y == 0) = true := by simpa using hc0
              have HC0 := Lib.hid hc0; clear hc0 hE
              go_wp2_with fail
              go_roundw
              case rel => exact ⟨k + 1, by omega, by omega, by go_num, hE2, Lib.hid hHeld.below⟩
              case measure => simp [intOf]; omega
            · have hd0 := wrB_diff HOX.out HOY.out HKK.out hc0
              have hd : Diff (cmpV x y) S.data.toList T.data.toList := by
                rw [HS.out, HT.out, allB_split l k x HX.out, allB_split l' k y HY.out, hE.out]
                exact (hd0.app _ _).pre _
              have e1 := hd.cmp
              have e2 := decide_eq_false hd.prefix
              have e3 := decide_eq_false hd.swap.prefix
              have hb1 : (cmpV x y != 0) = true := by simpa using hc0
              have hb2 : (cmpV x y == 0) = false := by simpa using hc0
              have E1 := Lib.hid e1; have E2 := Lib.hid e2; have E3 := Lib.hid e3; have HC0 := Lib.hid hc0
              clear hc0 hE hd0 hd e1 e2 e3
              go_wp2_with fail
              refine (text_any S T _).mono ?_
              rw [E1.out]
              rintro e w7 ⟨rfl, rfl⟩
              go_wp2_with fail
              refine (begins_any S T _).mono ?_
              rw [E3.out]
              rintro e w7 ⟨rfl, rfl⟩
              go_wp2_with fail
              refine (begins_any T S _).mono ?_
              rw [E2.out]
              rintro e w7 ⟨rfl, rfl⟩
              go_wp2
              go_ret
              exact ⟨by simp, hHeld.below⟩
          · have hk3 : (Go.bits .and .i64 x.k 3 != Go.bits .and .i64 y.k 3) = true := by unfold kd at hkk; simpa using hkk
            have hk4 : (Go.bits .and .i64 x.k 3 == Go.bits .and .i64 y.k 3) = false := by unfold kd at hkk; simpa using hkk
            clear hkk
            go_wp2_with fail
            go_quiet (fail)
            go_wp2
            go_ret
            exact ⟨rfl, pw_below_drewN hB.out _⟩
        · by_cases hle : l.length ≤ l'.length
          · obtain rfl : k = l.length := by omega
            have hp : S.data.toList <+: T.data.toList := by
              have h1 := hE.out
              rw [List.take_length] at h1
              rw [HS.out, HT.out, h1]
              refine ⟨allB (l'.drop l.length), ?_⟩
              unfold allB
              rw [← List.flatMap_append, List.take_append_drop]
            have e1 := decide_eq_true hp
            have E1 := Lib.hid e1
            have hle' : (l.length : Int) ≤ (l'.length : Int) := by omega
            clear hp e1
            by_cases hlt : l.length < l'.length
            all_goals
              go_wp2_with fail
              refine (begins_any T S _).mono ?_
              rw [E1.out]
              rintro e w7 ⟨rfl, rfl⟩
              go_wp2
              go_ret
              exact ⟨rfl, hB.out⟩
          · obtain rfl : k = l'.length := by omega
            have hp : T.data.toList <+: S.data.toList := by
              have h1 := hE.out
              rw [List.take_length] at h1
              rw [HS.out, HT.out, ← h1]
              refine ⟨allB (l.drop l'.length), ?_⟩
              unfold allB
              rw [← List.flatMap_append, List.take_append_drop]
            have e1 := decide_eq_true hp
            have E1 := Lib.hid e1
            have hle' : ¬ (l.length : Int) ≤ (l'.length : Int) := by omega
            clear hp e1
            go_wp2_with fail
            refine (begins_any S T _).mono ?_
            rw [E1.out]
            rintro e w7 ⟨rfl, rfl⟩
            go_wp2
            go_ret
            exact ⟨rfl, hB.out⟩
end Go.Proofs.YtdgejkiackeieaaDoor.Wr
end
