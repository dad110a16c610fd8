/- What the rows list of the tables: their cells; a world that meets it. -/
import Derived.Test.YtedealljhmokoaaDoorBlakeP
import Derived.Test.YtedealljhmokoaaDoorOpen
import Derived.LaidMore
import Derived.Stop.Joined
namespace Go.Proofs.YtedealljhmokoaaDoor
open Go.ChangeShapes Go.WideShapes Go.ChangeAt Go.RowKit
set_option linter.unusedVariables false
def laid3 : List (String × DataW Unit) := [("sheaves/blake.first", Rows.laid_sheaves_blake_first), ("sheaves/blake.order", Rows.laid_sheaves_blake_order), ("sheaves/blake.lanes", Rows.laid_sheaves_blake_lanes)]
theorem chunks {α : Type} (sz : Nat) : ∀ (rows : List (List α)) (cs : List α), cs.length = rows.length * sz → (∀ i (hi : i < rows.length), (cs.drop (i * sz)).take sz = rows[i]) → cs = rows.flatten
  | [], cs, hl, _ => by
    have : cs = [] := List.eq_nil_of_length_eq_zero (by simpa using hl)
    rw [this]; rfl
  | r :: rs, cs, hl, h => by
    have h0 := h 0 (by simp)
    simp only [Nat.zero_mul, List.drop_zero, List.getElem_cons_zero] at h0
    have h1 := chunks sz rs (cs.drop sz) (by rw [List.length_drop, hl, List.length_cons, Nat.add_mul]; omega) (fun i hi => by
      have := h (i + 1) (by simp; omega)
      rw [List.getElem_cons_succ] at this
      rw [← this, List.drop_drop, Nat.add_mul, Nat.one_mul, Nat.add_comm])
    rw [List.flatten_cons, ← h1, ← h0, List.take_append_drop]
section
variable {H : Type} {enc : TypeId × Value → H} {P : Program} {w : World} {base : Nat} {sp : Nat → Bool} {held : Bool} {t e : TypeId} {n fuel : Nat} {cs : List Value} {x : DataW H × List MemPlace}
theorem arr_ints {k : IntKind} (ht : P.underlying t = some (.array n e)) (he : P.underlying e = some (.int k)) (hc : P.cellsOf e = 1) (hn : P.cellsOf t = n) (h : DataW.trod enc P w base sp held fuel t cs = some x) {l : List Int}
    (hx : x.1 = .agg (l.map fun z => .lit (.int k z))) : cs = l.map (Value.int k) := by
  obtain ⟨xs, m, rfl, rfl, hlen, hxl, hel⟩ := DataW.trod_array ht h
  injection hx with hx
  have hll : l.length = n := by have := congrArg List.length hx; simp at this; omega
  refine List.ext_getElem (by rw [hlen, hn]; simp [hll]) (fun i h1 h2 => ?_)
  have hi : i < n := by rw [hlen, hn] at h1; exact h1
  have h3 := hel i hi
  rw [hc, Nat.mul_one, List.getElem?_eq_getElem (by omega)] at h3
  obtain ⟨z, e1, e2, _⟩ := DataW.trod_int he h3
  have h4 : (xs.map (·.1))[i]? = (l.map fun z => DataW.lit (.int k z))[i]? := by rw [hx]
  rw [List.getElem?_map, List.getElem?_map, List.getElem?_eq_getElem (by omega), List.getElem?_eq_getElem (by omega), e2] at h4
  simp at h4
  have h5 : (cs.drop i).take 1 = [cs[i]] := by
    rw [List.drop_eq_getElem_cons h1]; rfl
  rw [h5] at e1
  injection e1 with e1
  rw [e1, h4]; simp
theorem arr_rows {e2 : TypeId} {n2 : Nat} {k : IntKind} (ht : P.underlying t = some (.array n e)) (he : P.underlying e = some (.array n2 e2)) (he2 : P.underlying e2 = some (.int k)) (hc : P.cellsOf e2 = 1) (hc2 : P.cellsOf e = n2) (hn : P.cellsOf t = n * n2) (h : DataW.trod enc P w base sp held fuel t cs = some x) {l : List (List Int)}
    (hx : x.1 = .agg (l.map fun r => .agg (r.map fun z => .lit (.int k z)))) : cs = (l.map fun r => r.map (Value.int k)).flatten := by
  obtain ⟨xs, m, rfl, rfl, hlen, hxl, hel⟩ := DataW.trod_array ht h
  injection hx with hx
  have hll : l.length = n := by have := congrArg List.length hx; simp at this; omega
  refine chunks n2 _ _ (by rw [hlen, hn]; simp [hll]) (fun i hi => ?_)
  have hi' : i < n := by simpa [hll] using hi
  have h3 := hel i hi'
  rw [hc2, List.getElem?_eq_getElem (by omega)] at h3
  have h4 : (xs.map (·.1))[i]? = (l.map fun r => DataW.agg (r.map fun z => DataW.lit (.int k z)))[i]? := by rw [hx]
  rw [List.getElem?_map, List.getElem?_map, List.getElem?_eq_getElem (by omega), List.getElem?_eq_getElem (by omega)] at h4
  simp only [Option.map_some, Option.some.injEq] at h4
  rw [arr_ints he he2 hc hc2 h3 h4]
  simp
end
theorem gFirst : Tryd.prog.globalNamed "sheaves/blake.first" = some 0 := by kernel_rfl
theorem gOrder : Tryd.prog.globalNamed "sheaves/blake.order" = some 1 := by kernel_rfl
theorem gLanes : Tryd.prog.globalNamed "sheaves/blake.lanes" = some 2 := by kernel_rfl
theorem tFirst : (Tryd.prog.globals[0]?).map (·.type) = some 148 := by kernel_rfl
theorem tOrder : (Tryd.prog.globals[1]?).map (·.type) = some 162 := by kernel_rfl
theorem tLanes : (Tryd.prog.globals[2]?).map (·.type) = some 164 := by kernel_rfl
theorem cells_get {W : World} {g n : Nat} {cs : Array Value} {l : List Nat} {enc : Nat → Value} (hc : ∀ i, W.cell? ⟨g, i, none⟩ = cs[i]?) (h : cs.toList = l.map enc) (hn : l.length = n) : ∀ i, i < n → W.cell? ⟨g, i, none⟩ = some (enc (at0 l i)) := fun i hi => by
  rw [hc i, ← Array.getElem?_toList, h, ← at0_get (by omega)]
  simp [show i < l.length by omega]
theorem of_laid {W : World} (h : laidMetH Tryd.prog laid3 W) : Tabs W.cell? := by
  rw [MakeChecks.laidMetH_plain _ _ _ (by kernel_rfl)] at h
  obtain ⟨ps, ⟨g0, t0, cs0, f0, p0, q0, hg0, ht0, hv0, hd0, ⟨g1, t1, cs1, f1, p1, q1, hg1, ht1, hv1, hd1, ⟨g2, t2, cs2, f2, p2, q2, hg2, ht2, hv2, hd2, _, _⟩, _⟩, _⟩, _, _⟩ := h
  obtain rfl := Option.some.inj (gFirst.symm.trans hg0)
  obtain rfl := Option.some.inj (gOrder.symm.trans hg1)
  obtain rfl := Option.some.inj (gLanes.symm.trans hg2)
  obtain rfl := Option.some.inj (tFirst.symm.trans ht0)
  obtain rfl := Option.some.inj (tOrder.symm.trans ht1)
  obtain rfl := Option.some.inj (tLanes.symm.trans ht2)
  have e0 := arr_ints (l := first8.map Int.ofNat) Tryd.underlying148 Tryd.underlying147 (by kernel_rfl) (by kernel_rfl) hd0 rfl
  have e1 := arr_rows (l := ordRows.map fun r => r.map Int.ofNat) Tryd.underlying162 Tryd.underlying161 Tryd.underlying3 (by kernel_rfl) (by kernel_rfl) (by kernel_rfl) hd1 rfl
  have e2 := arr_rows (l := ((List.range 8).map laneRow).map fun r => r.map Int.ofNat) Tryd.underlying164 Tryd.underlying163 Tryd.underlying3 (by kernel_rfl) (by kernel_rfl) (by kernel_rfl) hd2 (by kernel_rfl)
  have f0 : cs0.toList = first8.map encU := e0
  have f1 : cs1.toList = ordRows.flatten.map encN := e1.trans (by kernel_rfl)
  have f2 : cs2.toList = (((List.range 8).map laneRow).flatten).map encN := e2.trans (by kernel_rfl)
  exact ⟨cells_get (World.var?_cell hg0 hv0) f0 (by kernel_rfl), cells_get (World.var?_cell hg1 hv1) f1 (by kernel_rfl), cells_get (World.var?_cell hg2 hv2) f2 (by kernel_rfl)⟩
theorem door_met (os : Os) (args : Array Value) : laidMetH Tryd.prog laid3 ((World.doorLaid Tryd.prog 400 os).forCall (fun _ _ => 0) ⟨#[], args, []⟩).memory :=
  laidMetH_of_parts3 (fuel := 8) (laidMet_of_run' 8 (by kernel_rfl) (by kernel_rfl)) (by kernel_rfl) (by kernel_rfl)
theorem open_cellD {P : Program} {H : Type} {enc : TypeId × Value → H} {W : World} {t e : TypeId} {base : Nat} {v : Value} {d : DataW H} {p : List MemPlace} {α : Type} {R : View → Value → α → Prop} (ht : P.underlying t = some (.slice e)) (hval : Value.okWide P W .any base t v)
    (h : DataW.Trod enc P W 0 (fun _ => true) true t v d p) (hw : ∀ n ∈ DataW.weights P t d, n ≤ reachBytes) (ho : OpensTo P t (fun h cs x => ∃ v, cs = [v] ∧ R h v x)) : ∃ x, R W.cell? v x := by
  obtain ⟨fuel, h⟩ := h
  obtain ⟨x, v', hc, hr⟩ := ho H enc W fuel _ _ h hw
  obtain ⟨a, n, c, rfl⟩ := okWide_slice ht hval
  obtain rfl : Value.slice a n c = v' := by simpa [Value.cells] using hc
  exact ⟨x, hr⟩
end Go.Proofs.YtedealljhmokoaaDoor
