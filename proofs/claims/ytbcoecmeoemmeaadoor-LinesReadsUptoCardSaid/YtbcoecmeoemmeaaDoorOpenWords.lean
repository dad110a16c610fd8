/- The tables that lines reads, out of what a row lists. -/
import Derived.Test.YtbcoecmeoemmeaaDoorLn3
import Derived.Test.YtbcoecmeoemmeaaDoorOpen
import Derived.Lib.LaidTab
namespace Go.Proofs.YtbcoecmeoemmeaaDoor
open Go.ChangeShapes Go.WideShapes Go.ChangeAt Go.RowKit
set_option linter.unusedVariables false
namespace Ln
section
variable {H : Type} {enc : TypeId × Value → H} {P : Program} {w : World} {base : Nat} {sp : Nat → Bool} {held : Bool} {t e : TypeId} {n fuel : Nat} {cs : List Value} {x : DataW H × List MemPlace}
theorem arr_strs (ht : P.underlying t = some (.array n e)) (he : P.underlying e = some .string) (hc : P.cellsOf e = 1) (hn : P.cellsOf t = n) (h : DataW.trod enc P w base sp held fuel t cs = some x) {l : List (List UInt8)}
    (hx : x.1 = .agg (l.map fun z => .lit (.string z))) : cs = l.map fun z => Value.string (mkS z) := by
  obtain ⟨xs, m, rfl, rfl, hlen, hxl, hel⟩ := DataW.trod_array ht h
  injection hx with hx
  have hll : l.length = n := by have := congrArg List.length hx; simp at this; omega
  refine List.ext_getElem (by rw [hlen, hn]; simp [hll]) (fun i h1 h2 => ?_)
  have hi : i < n := by rw [hlen, hn] at h1; exact h1
  have h3 := hel i hi
  rw [hc, Nat.mul_one, List.getElem?_eq_getElem (by omega)] at h3
  obtain ⟨z, e1, e2, _⟩ := DataW.trod_string he h3
  have h4 : (xs.map (·.1))[i]? = (l.map fun z => DataW.lit (.string z))[i]? := by rw [hx]
  rw [List.getElem?_map, List.getElem?_map, List.getElem?_eq_getElem (by omega), List.getElem?_eq_getElem (by omega), e2] at h4
  simp at h4
  have h5 : (cs.drop i).take 1 = [cs[i]] := by
    rw [List.drop_eq_getElem_cons h1]; rfl
  rw [h5] at e1
  injection e1 with e1
  rw [e1, List.getElem_map, ← h4]
  rfl
end
theorem gWords : Tryd.prog.globalNamed "sheaves/lines.words" = some 0 := by kernel_rfl
theorem tWords : (Tryd.prog.globals[0]?).map (·.type) = some 45 := by kernel_rfl
theorem words_of {W : World} {g : Nat} {t : TypeId} {cs : Array Value} {fuel : Nat} {ps : List MemPlace} {H : Type} {enc : TypeId × Value → H} {base : Nat} {sp : Nat → Bool} {held : Bool} (hg : Tryd.prog.globalNamed "sheaves/lines.words" = some g) (ht : (Tryd.prog.globals[g]?).map (·.type) = some t) (hv : W.var? Tryd.prog "sheaves/lines.words" = some cs)
    (hd : DataW.trod enc Tryd.prog W base sp held fuel t cs.toList = some (Rows.laid_sheaves_lines_words, ps)) : Words W.cell? := by
  obtain rfl := Option.some.inj (gWords.symm.trans hg)
  obtain rfl := Option.some.inj (tWords.symm.trans ht)
  have e0 := arr_strs (l := wordsL) Tryd.underlying45 Tryd.underlying9 (by kernel_rfl) (by kernel_rfl) hd rfl
  intro k hk
  rw [World.var?_cell hg hv k, ← Array.getElem?_toList, e0, List.getElem?_map]
  unfold wordL
  rw [List.getElem?_eq_getElem (show k < wordsL.length from hk)]
  rfl
theorem gPow : Tryd.prog.globalNamed "internal/strconv.uint64pow10" = some 2 := by kernel_rfl
theorem tPow : (Tryd.prog.globals[2]?).map (·.type) = some 86 := by kernel_rfl
theorem pow_of {W : World} {g : Nat} {t : TypeId} {cs : Array Value} {fuel : Nat} {ps : List MemPlace} {H : Type} {enc : TypeId × Value → H} {base : Nat} {sp : Nat → Bool} {held : Bool} (hg : Tryd.prog.globalNamed "internal/strconv.uint64pow10" = some g) (ht : (Tryd.prog.globals[g]?).map (·.type) = some t) (hv : W.var? Tryd.prog "internal/strconv.uint64pow10" = some cs)
    (hd : DataW.trod enc Tryd.prog W base sp held fuel t cs.toList = some (Rows.laid_internal_strconv_uint64pow10, ps)) : Pow W := by
  obtain rfl := Option.some.inj (gPow.symm.trans hg)
  obtain rfl := Option.some.inj (tPow.symm.trans ht)
  unfold Pow Lib.TabIs
  rw [hv]
  have := Lib.cells_of_tab (zs := Lib.pow10Tab) Tryd.underlying86 Tryd.underlying77 (by kernel_rfl) (by kernel_rfl) (p := ps) (hd.trans (by rfl))
  rw [← this]
theorem open_cellW {P : Program} {H : Type} {enc : TypeId × Value → H} {W : World} {t e : TypeId} {base : Nat} {v : Value} {d : DataW H} {p : List MemPlace} {α : Type} {R : View → Value → α → Prop} (ht : P.underlying t = some (.slice e)) (hval : Value.okWide P W .any base t v)
    (h : DataW.Trod enc P W 0 (fun _ => true) true t v d p) (hw : ∀ n ∈ DataW.weights P t d, n ≤ reachBytes) (ho : OpensTo P t (fun h cs x => ∃ v, cs = [v] ∧ R h v x)) : ∃ x, R W.cell? v x := by
  obtain ⟨fuel, h⟩ := h
  obtain ⟨x, v', hc, hr⟩ := ho H enc W fuel _ _ h hw
  obtain ⟨a, n, c, rfl⟩ := okWide_slice ht hval
  obtain rfl : Value.slice a n c = v' := by simpa [Value.cells] using hc
  exact ⟨x, hr⟩
end Ln
end Go.Proofs.YtbcoecmeoemmeaaDoor
