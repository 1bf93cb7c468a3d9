/- What the laid tables give: the digest's two tables lie in the heap as the specs name them. -/
import Derived.Test.YtdgejkiackeieaaDoorXa
import Derived.Test.YtdgejkiackeieaaDoorRows
import Derived.ProofKit
import Derived.OpenShut
import Derived.LaidMore
import Derived.Lay
import Derived.SevenTiedAt
import Derived.Stop.Joined
set_option linter.unusedVariables false
namespace Go.Proofs.YtdgejkiackeieaaDoor
open Go.RowKit Go.ChangeShapes
theorem arr_ints {H : Type} {enc : TypeId × Value → H} {P : Program} {W : World} {base : Nat} {spare : Nat → Bool} {held : Bool} {fuel : Nat} {t e : TypeId} {k : IntKind} {n : Nat} {cs : List Value} {zs : List Int} {p : List MemPlace}
    (ht : P.underlying t = some (.array n e)) (he : P.underlying e = some (.int k)) (hc : P.cellsOf e = 1) (hct : P.cellsOf t = n)
    (hd : DataW.trod enc P W base spare held fuel t cs = some (.agg (zs.map fun z => .lit (.int k z)), p)) : cs = zs.map (Value.int k) := by
  obtain ⟨xs, m, _, ex, hlen, hl, hel⟩ := DataW.trod_array ht hd
  have e3 : (xs.map (·.1)) = zs.map fun z => .lit (.int k z) := (DataW.agg.inj (Prod.mk.inj ex).1).symm
  have hzl : zs.length = n := by
    have := congrArg List.length e3
    rw [List.length_map, List.length_map] at this
    omega
  apply List.ext_getElem?
  intro i
  by_cases hi : i < n
  · have hE := hel i hi
    rw [hc, Nat.mul_one, List.getElem?_eq_getElem (by omega)] at hE
    obtain ⟨z, e1, e2, _⟩ := DataW.trod_int he hE
    have e4 : (xs.map (·.1))[i]? = (zs.map fun z => (DataW.lit (.int k z) : DataW H))[i]? := by rw [e3]
    rw [List.getElem?_map, List.getElem?_map, List.getElem?_eq_getElem (by omega : i < xs.length), List.getElem?_eq_getElem (by omega : i < zs.length), e2] at e4
    have hz : z = zs[i] := by
      simp only [Option.map_some, Option.some.injEq, DataW.lit.injEq, Lit.int.injEq, true_and] at e4
      exact e4
    rw [List.getElem?_map, List.getElem?_eq_getElem (by omega : i < zs.length), ← hz]
    have h0 : ((cs.drop i).take 1)[0]? = some (.int k z) := by rw [e1]; rfl
    simpa using h0
  · rw [List.getElem?_eq_none (by omega), List.getElem?_eq_none (by rw [List.length_map]; omega)]
theorem take_rows (m : Nat) : ∀ (n : Nat) (cs : List Value) (rows : List (List Value)), cs.length = n * m → rows.length = n → (∀ i, i < n → some ((cs.drop (i * m)).take m) = rows[i]?) → cs = rows.flatten
  | 0, cs, rows, h, hr, _ => by
    have : cs = [] := List.length_eq_zero_iff.1 (by omega)
    have : rows = [] := List.length_eq_zero_iff.1 hr
    subst_vars; rfl
  | n + 1, cs, r :: rows, h, hr, hel => by
    have h0 := hel 0 (by omega)
    simp only [Nat.zero_mul, List.drop_zero, List.getElem?_cons_zero, Option.some.injEq] at h0
    have ih := take_rows m n (cs.drop m) rows (by rw [List.length_drop, h, Nat.add_mul]; omega) (by simpa using hr) (fun i hi => by
      have := hel (i + 1) (by omega)
      rw [List.getElem?_cons_succ] at this
      rw [← this, List.drop_drop, show m + i * m = (i + 1) * m by rw [Nat.add_mul]; omega])
    rw [List.flatten_cons, ← ih, ← h0, List.take_append_drop]
theorem arr_rows {H : Type} {enc : TypeId × Value → H} {P : Program} {W : World} {base : Nat} {spare : Nat → Bool} {held : Bool} {fuel : Nat} {t a e : TypeId} {k : IntKind} {n m : Nat} {cs : List Value} {zss : List (List Int)} {p : List MemPlace}
    (ht : P.underlying t = some (.array n a)) (ha : P.underlying a = some (.array m e)) (he : P.underlying e = some (.int k)) (hc : P.cellsOf e = 1) (hca : P.cellsOf a = m) (hct : P.cellsOf t = n * m)
    (hd : DataW.trod enc P W base spare held fuel t cs = some (.agg (zss.map fun zs => .agg (zs.map fun z => .lit (.int k z))), p)) : cs = (zss.map fun zs => zs.map (Value.int k)).flatten := by
  obtain ⟨xs, f, _, ex, hlen, hl, hel⟩ := DataW.trod_array ht hd
  have e3 : (xs.map (·.1)) = zss.map fun zs => .agg (zs.map fun z => .lit (.int k z)) := (DataW.agg.inj (Prod.mk.inj ex).1).symm
  have hzl : zss.length = n := by
    have := congrArg List.length e3
    rw [List.length_map, List.length_map] at this
    omega
  refine take_rows m n cs _ (by rw [hlen, hct]) (by rw [List.length_map, hzl]) (fun i hi => ?_)
  have hE := hel i hi
  rw [hca, List.getElem?_eq_getElem (by omega)] at hE
  have e4 : (xs.map (·.1))[i]? = (zss.map fun zs => (DataW.agg (zs.map fun z => .lit (.int k z)) : DataW H))[i]? := by rw [e3]
  rw [List.getElem?_map, List.getElem?_map, List.getElem?_eq_getElem (by omega : i < xs.length), List.getElem?_eq_getElem (by omega : i < zss.length)] at e4
  rw [List.getElem?_map, List.getElem?_eq_getElem (by omega : i < zss.length)]
  generalize hx : xs[i]'(by omega) = x at hE e4
  obtain ⟨x1, x2⟩ := x
  simp only [Option.map_some, Option.some.injEq] at e4
  subst e4
  rw [arr_ints ha he hc hca hE]
  rfl
def ordersR : List (List Int) := (List.range 10).map fun r => (List.range 16).map fun i => ((ordersN.getD (16 * r + i) 0 : Nat) : Int)
theorem ordersR_flat : (ordersR.map fun zs => zs.map (Value.int .u8)).flatten = ordersN.map (fun (n : Nat) => Value.int .u8 (n : Int)) := by kernel_rfl
theorem first_laid : (Rows.laid_bourne_digest_first : DataW Unit) = .agg (firstI.map fun z => .lit (.int .u32 z)) := by kernel_rfl
theorem orders_laid : (Rows.laid_bourne_digest_orders : DataW Unit) = .agg (ordersR.map fun zs => .agg (zs.map fun z => .lit (.int .u8 z))) := by kernel_rfl
theorem cells_of_var {P : Program} {w : World} {n : String} {g : Nat} {cs : Array Value} (hg : P.globalNamed n = some g) (h : w.var? P n = some cs) : ∃ t fr, w.heap[g]? = some (.cells cs t fr) := by
  simp only [World.var?, hg, Option.bind_some] at h
  split at h
  · rename_i cs' t fr hh
    cases h
    exact ⟨t, fr, hh⟩
  · cases h
theorem globals0 : (Tryd.prog.globals[0]?).map (·.type) = some 98 := by kernel_rfl
theorem digw_of_vars {W : World} {r : List (String × DataW Unit)} {ps : List MemPlace}
    (h : DataW.LaidVars Tryd.prog W (("bourne/digest.first", Rows.laid_bourne_digest_first) :: ("bourne/digest.orders", Rows.laid_bourne_digest_orders) :: r) ps) : DigW W := by
  obtain ⟨g0, t0, cs0, f0, p0, q0, hg0, ht0, hv0, hd0, ⟨g1, t1, cs1, f1, p1, q1, hg1, ht1, hv1, hd1, _, _⟩, _⟩ := h
  obtain rfl := Option.some.inj ((show Tryd.prog.globalNamed "bourne/digest.first" = some 0 by kernel_rfl).symm.trans hg0)
  obtain rfl := Option.some.inj ((show Tryd.prog.globalNamed "bourne/digest.orders" = some 1 by kernel_rfl).symm.trans hg1)
  obtain rfl := Option.some.inj (globals0.symm.trans ht0)
  obtain rfl := Option.some.inj ((show (Tryd.prog.globals[1]?).map (·.type) = some 129 by kernel_rfl).symm.trans ht1)
  rw [first_laid] at hd0
  rw [orders_laid] at hd1
  have c0 := arr_ints Tryd.underlying98 (e := 97) Tryd.underlying97 (by kernel_rfl) (by kernel_rfl) hd0
  have c1 := arr_rows Tryd.underlying129 Tryd.underlying128 (e := 5) Tryd.underlying5 (by kernel_rfl) (by kernel_rfl) (by kernel_rfl) hd1
  rw [ordersR_flat] at c1
  obtain ⟨u0, fr0, b0⟩ := cells_of_var hg0 hv0
  obtain ⟨u1, fr1, b1⟩ := cells_of_var hg1 hv1
  have e0 : cs0 = (firstI.map (Value.int .u32)).toArray := by rw [← c0]
  have e1 : cs1 = (ordersN.map (fun (n : Nat) => Value.int .u8 (n : Int))).toArray := by rw [← c1]
  rw [e0] at b0
  rw [e1] at b1
  exact ⟨⟨⟨u0, fr0, b0⟩, ⟨u1, fr1, b1⟩⟩, (Array.getElem?_eq_some_iff.1 b1).1⟩
theorem digw_of_laid {W : World} {r : List (String × DataW Unit)} (hp : (r.all fun x => x.2.handleName?.isNone) = true)
    (h : laidMetH Tryd.prog (("bourne/digest.first", Rows.laid_bourne_digest_first) :: ("bourne/digest.orders", Rows.laid_bourne_digest_orders) :: r) W) : DigW W := by
  rw [MakeChecks.laidMetH_plain _ _ _ (by rw [List.all_cons, List.all_cons, hp]; kernel_rfl)] at h
  obtain ⟨ps, hl, _⟩ := h
  exact digw_of_vars hl
end Go.Proofs.YtdgejkiackeieaaDoor
