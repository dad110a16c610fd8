/- The law OrderBlocks: order.Block answers what the document says, at every argument: no condition; its card: the tables tied to the text of the program. -/
import Derived.Test.YtbcoecmeoemmeaaGreatDoorDag4
import Derived.Test.YtbcoecmeoemmeaaGreatDoorSortL
import Derived.Shelf.SlSortCmp.WholeK
import Derived.Shelf.SlSortCmp.NoneTotal
import Derived.Test.YtbcoecmeoemmeaaGreatDoorOpenCert
import Derived.Test.YtbcoecmeoemmeaaGreatDoorHead
import Derived.Test.YtbcoecmeoemmeaaGreatDoorBatch
import Derived.Test.YtbcoecmeoemmeaaGreatDoorCert
import Derived.Test.YtbcoecmeoemmeaaGreatDoorDag1
import Derived.Test.YtbcoecmeoemmeaaGreatDoorHistP
import Derived.Test.YtbcoecmeoemmeaaGreatDoorPlan4
import Derived.Shelf.SlSortCmp.Whole1
import Derived.Test.YtbcoecmeoemmeaaGreatDoorOpen
import Derived.Test.YtbcoecmeoemmeaaGreatDoorChg2
import Derived.Test.YtbcoecmeoemmeaaGreatDoorHead2
import Derived.Deep.DeepCutAuto
import Derived.Deep.CutBlock
import Derived.Test.YtbcoecmeoemmeaaGreatDoorDagP
import Derived.Test.YtbcoecmeoemmeaaGreatDoorStr
import Derived.StringKeys
import Derived.Maps.OwnSet
import Derived.Maps.AppendAt
import Derived.Deep.OwnRows
import Derived.Laws.Strings
import Derived.Test.YtbcoecmeoemmeaaGreatDoorBlakeP
import Derived.LaidMore
import Derived.Stop.Joined
import Derived.Test.YtbcoecmeoemmeaaGreatDoorCrts
import Derived.Test.YtbcoecmeoemmeaaGreatDoorCopy
import Derived.Test.YtbcoecmeoemmeaaGreatDoorOwn
import Derived.Test.YtbcoecmeoemmeaaGreatDoorCards
import Derived.Test.YtbcoecmeoemmeaaGreatDoorTie
import Derived.SevenTiedAt
import Derived.Test.YtbcoecmeoemmeaaGreatDoorOrderBlocksAllA
namespace Go.Proofs.YtbcoecmeoemmeaaGreatDoor
open Go.ChangeShapes Go.WideShapes Go.ChangeAt Go.RowKit
set_option linter.unusedVariables false
def laid3 : List (String × DataW Unit) := [("sheaves/blake.first", Rows.laid_sheaves_blake_first), ("sheaves/blake.order", Rows.laid_sheaves_blake_order), ("sheaves/blake.lanes", Rows.laid_sheaves_blake_lanes)]
theorem chunks {α : Type} (sz : Nat) : ∀ (rows : List (List α)) (cs : List α), cs.length = rows.length * sz → (∀ i (hi : i < rows.length), (cs.drop (i * sz)).take sz = rows[i]) → cs = rows.flatten
  | [], cs, hl, _ => by
    have : cs = [] := List.eq_nil_of_length_eq_zero (by simpa using hl)
    rw [this]; rfl
  | r :: rs, cs, hl, h => by
    have h0 := h 0 (by simp)
    simp only [Nat.zero_mul, List.drop_zero, List.getElem_cons_zero] at h0
    have h1 := chunks sz rs (cs.drop sz) (by rw [List.length_drop, hl, List.length_cons, Nat.add_mul]; omega) (fun i hi => by
      have := h (i + 1) (by simp; omega)
      rw [List.getElem_cons_succ] at this
      rw [← this, List.drop_drop, Nat.add_mul, Nat.one_mul, Nat.add_comm])
    rw [List.flatten_cons, ← h1, ← h0, List.take_append_drop]
section
variable {H : Type} {enc : TypeId × Value → H} {P : Program} {w : World} {base : Nat} {sp : Nat → Bool} {held : Bool} {t e : TypeId} {n fuel : Nat} {cs : List Value} {x : DataW H × List MemPlace}
theorem arr_ints {k : IntKind} (ht : P.underlying t = some (.array n e)) (he : P.underlying e = some (.int k)) (hc : P.cellsOf e = 1) (hn : P.cellsOf t = n) (h : DataW.trod enc P w base sp held fuel t cs = some x) {l : List Int}
    (hx : x.1 = .agg (l.map fun z => .lit (.int k z))) : cs = l.map (Value.int k) := by
  obtain ⟨xs, m, rfl, rfl, hlen, hxl, hel⟩ := DataW.trod_array ht h
  injection hx with hx
  have hll : l.length = n := by have := congrArg List.length hx; simp at this; omega
  refine List.ext_getElem (by rw [hlen, hn]; simp [hll]) (fun i h1 h2 => ?_)
  have hi : i < n := by rw [hlen, hn] at h1; exact h1
  have h3 := hel i hi
  rw [hc, Nat.mul_one, List.getElem?_eq_getElem (by omega)] at h3
  obtain ⟨z, e1, e2, _⟩ := DataW.trod_int he h3
  have h4 : (xs.map (·.1))[i]? = (l.map fun z => DataW.lit (.int k z))[i]? := by rw [hx]
  rw [List.getElem?_map, List.getElem?_map, List.getElem?_eq_getElem (by omega), List.getElem?_eq_getElem (by omega), e2] at h4
  simp at h4
  have h5 : (cs.drop i).take 1 = [cs[i]] := by
    rw [List.drop_eq_getElem_cons h1]; rfl
  rw [h5] at e1
  injection e1 with e1
  rw [e1, h4]; simp
theorem arr_rows {e2 : TypeId} {n2 : Nat} {k : IntKind} (ht : P.underlying t = some (.array n e)) (he : P.underlying e = some (.array n2 e2)) (he2 : P.underlying e2 = some (.int k)) (hc : P.cellsOf e2 = 1) (hc2 : P.cellsOf e = n2) (hn : P.cellsOf t = n * n2) (h : DataW.trod enc P w base sp held fuel t cs = some x) {l : List (List Int)}
    (hx : x.1 = .agg (l.map fun r => .agg (r.map fun z => .lit (.int k z)))) : cs = (l.map fun r => r.map (Value.int k)).flatten := by
  obtain ⟨xs, m, rfl, rfl, hlen, hxl, hel⟩ := DataW.trod_array ht h
  injection hx with hx
  have hll : l.length = n := by have := congrArg List.length hx; simp at this; omega
  refine chunks n2 _ _ (by rw [hlen, hn]; simp [hll]) (fun i hi => ?_)
  have hi' : i < n := by simpa [hll] using hi
  have h3 := hel i hi'
  rw [hc2, List.getElem?_eq_getElem (by omega)] at h3
  have h4 : (xs.map (·.1))[i]? = (l.map fun r => DataW.agg (r.map fun z => DataW.lit (.int k z)))[i]? := by rw [hx]
  rw [List.getElem?_map, List.getElem?_map, List.getElem?_eq_getElem (by omega), List.getElem?_eq_getElem (by omega)] at h4
  simp only [Option.map_some, Option.some.injEq] at h4
  rw [arr_ints he he2 hc hc2 h3 h4]
  simp
end
theorem gFirst : Tryz.prog.globalNamed "sheaves/blake.first" = some 0 := by kernel_rfl
theorem gOrder : Tryz.prog.globalNamed "sheaves/blake.order" = some 1 := by kernel_rfl
theorem gLanes : Tryz.prog.globalNamed "sheaves/blake.lanes" = some 2 := by kernel_rfl
theorem tFirst : (Tryz.prog.globals[0]?).map (·.type) = some 192 := by kernel_rfl
theorem tOrder : (Tryz.prog.globals[1]?).map (·.type) = some 253 := by kernel_rfl
theorem tLanes : (Tryz.prog.globals[2]?).map (·.type) = some 255 := by kernel_rfl
theorem cells_get {W : World} {g n : Nat} {cs : Array Value} {l : List Nat} {enc : Nat → Value} (hc : ∀ i, W.cell? ⟨g, i, none⟩ = cs[i]?) (h : cs.toList = l.map enc) (hn : l.length = n) : ∀ i, i < n → W.cell? ⟨g, i, none⟩ = some (enc (at0 l i)) := fun i hi => by
  rw [hc i, ← Array.getElem?_toList, h, ← at0_get (by omega)]
  simp [show i < l.length by omega]
theorem of_laid {W : World} (h : laidMetH Tryz.prog laid3 W) : Tabs W.cell? := by
  rw [MakeChecks.laidMetH_plain _ _ _ (by kernel_rfl)] at h
  obtain ⟨ps, ⟨g0, t0, cs0, f0, p0, q0, hg0, ht0, hv0, hd0, ⟨g1, t1, cs1, f1, p1, q1, hg1, ht1, hv1, hd1, ⟨g2, t2, cs2, f2, p2, q2, hg2, ht2, hv2, hd2, _, _⟩, _⟩, _⟩, _, _⟩ := h
  obtain rfl := Option.some.inj (gFirst.symm.trans hg0)
  obtain rfl := Option.some.inj (gOrder.symm.trans hg1)
  obtain rfl := Option.some.inj (gLanes.symm.trans hg2)
  obtain rfl := Option.some.inj (tFirst.symm.trans ht0)
  obtain rfl := Option.some.inj (tOrder.symm.trans ht1)
  obtain rfl := Option.some.inj (tLanes.symm.trans ht2)
  have e0 := arr_ints (l := first8.map Int.ofNat) Tryz.underlying192 Tryz.underlying191 (by kernel_rfl) (by kernel_rfl) hd0 rfl
  have e1 := arr_rows (l := ordRows.map fun r => r.map Int.ofNat) Tryz.underlying253 Tryz.underlying252 Tryz.underlying3 (by kernel_rfl) (by kernel_rfl) (by kernel_rfl) hd1 rfl
  have e2 := arr_rows (l := ((List.range 8).map laneRow).map fun r => r.map Int.ofNat) Tryz.underlying255 Tryz.underlying254 Tryz.underlying3 (by kernel_rfl) (by kernel_rfl) (by kernel_rfl) hd2 (by kernel_rfl)
  have f0 : cs0.toList = first8.map encU := e0
  have f1 : cs1.toList = ordRows.flatten.map encN := e1.trans (by kernel_rfl)
  have f2 : cs2.toList = (((List.range 8).map laneRow).flatten).map encN := e2.trans (by kernel_rfl)
  exact ⟨cells_get (World.var?_cell hg0 hv0) f0 (by kernel_rfl), cells_get (World.var?_cell hg1 hv1) f1 (by kernel_rfl), cells_get (World.var?_cell hg2 hv2) f2 (by kernel_rfl)⟩
theorem door_met (os : Os) (args : Array Value) : laidMetH Tryz.prog laid3 ((World.doorLaid Tryz.prog 400 os).forCall (fun _ _ => 0) ⟨#[], args, []⟩).memory :=
  laidMetH_of_parts3 (fuel := 8) (laidMet_of_run' 8 (by kernel_rfl) (by kernel_rfl)) (by kernel_rfl) (by kernel_rfl)
theorem open_cellD {P : Program} {H : Type} {enc : TypeId × Value → H} {W : World} {t e : TypeId} {base : Nat} {v : Value} {d : DataW H} {p : List MemPlace} {α : Type} {R : View → Value → α → Prop} (ht : P.underlying t = some (.slice e)) (hval : Value.okWide P W .any base t v)
    (h : DataW.Trod enc P W 0 (fun _ => true) true t v d p) (hw : ∀ n ∈ DataW.weights P t d, n ≤ reachBytes) (ho : OpensTo P t (fun h cs x => ∃ v, cs = [v] ∧ R h v x)) : ∃ x, R W.cell? v x := by
  obtain ⟨fuel, h⟩ := h
  obtain ⟨x, v', hc, hr⟩ := ho H enc W fuel _ _ h hw
  obtain ⟨a, n, c, rfl⟩ := okWide_slice ht hval
  obtain rfl : Value.slice a n c = v' := by simpa [Value.cells] using hc
  exact ⟨x, hr⟩
end Go.Proofs.YtbcoecmeoemmeaaGreatDoor

namespace Go.Proofs.YtbcoecmeoemmeaaGreatDoor
open Go.ChangeShapes Go.WideShapes Go.ChangeAt Go.RowKit
set_option linter.unusedVariables false
set_option maxRecDepth 100000 in
theorem opens_crts : OpensTo Tryz.prog 37 (fun h cs (xs : List Crt) => ∃ v, cs = [v] ∧ RCrts h v xs) :=
  opens_sl Tryz.underlying37 (by kernel_rfl) (by decide) (by kernel_rfl) (R := RCrt) opens_crt
section
variable {H : Type} {enc : TypeId × Value → H} {W : World} {base : Nat} {v : Value} {d : DataW H} {p : List MemPlace}
set_option maxRecDepth 100000 in
theorem open_dag (hval : Value.okWide Tryz.prog W .any base 39 v) (h : DataW.Trod enc Tryz.prog W 0 (fun _ => true) true 39 v d p) (hw : ∀ n ∈ DataW.weights Tryz.prog 39 d, n ≤ reachBytes) :
    ∃ (l : List Crt) (x : Value), v = .agg #[x] ∧ RCrts W.cell? x l := by
  obtain ⟨fuel, h⟩ := h
  obtain ⟨hl, hf⟩ := opens_fields Tryz.underlying39 h hw
  obtain ⟨l, v', hd, hb⟩ := hf 0 37 0 1 rfl (by kernel_rfl) opens_crts
  have hl' : v.cells.toList.length = 1 := hl.trans (by kernel_rfl)
  match hcs : v.cells.toList, hl' with
  | [c0], _ =>
    rw [hcs] at hd
    simp at hd
    subst hd
    exact ⟨l, _, agg_of Tryz.underlying39 hval hcs, hb⟩
set_option maxRecDepth 100000 in
theorem open_bytesD (hval : Value.okWide Tryz.prog W .any base 41 v) (h : DataW.Trod enc Tryz.prog W 0 (fun _ => true) true 41 v d p)
    (hw : ∀ n ∈ DataW.weights Tryz.prog 41 d, n ≤ reachBytes) : ∃ b, RBytes W.cell? v b := open_cellD (R := RBytes) Tryz.underlying41 hval h hw opens_bytes
end
end Go.Proofs.YtbcoecmeoemmeaaGreatDoor

namespace Go.Proofs.YtbcoecmeoemmeaaGreatDoor
open Go.ChangeShapes Go.WideShapes Go.ChangeAt Go.RowKit
set_option linter.unusedVariables false
structure Slot where
  author : Int
  round : Int
  digest : List UInt8
/-- the cells of a slot -/
def RSlot (h : View) (cs : List Value) (s : Slot) : Prop := ∃ d, cs = [.int .i64 s.author, .int .i64 s.round, d] ∧ RBytes h d s.digest

end Go.Proofs.YtbcoecmeoemmeaaGreatDoor

namespace Go.Proofs.YtbcoecmeoemmeaaGreatDoor
open Go.ChangeShapes Go.WideShapes Go.ChangeAt Go.RowKit
set_option linter.unusedVariables false
set_option maxHeartbeats 1000000 in
set_option maxRecDepth 100000 in
theorem opens_slot : OpensTo Tryz.prog 108 RSlot := by
  intro H enc w fuel cs x h hw
  obtain ⟨hl, hf⟩ := opens_fields Tryz.underlying108 h hw
  obtain ⟨a, ha, _⟩ := hf 0 3 0 1 rfl (by kernel_rfl) opens_i
  obtain ⟨r, hr, _⟩ := hf 1 3 1 1 rfl (by kernel_rfl) opens_i
  obtain ⟨d, v, hd, hb⟩ := hf 2 41 2 1 rfl (by kernel_rfl) opens_bytes
  have hl' : cs.length = 3 := hl.trans (by kernel_rfl)
  match cs, hl' with
  | [c0, c1, c2], _ =>
    simp at ha hr hd
    subst ha hr hd
    exact ⟨⟨a, r, d⟩, _, rfl, hb⟩
theorem opens_slots : OpensTo Tryz.prog 60 (fun h cs (xs : List Slot) => ∃ v, cs = [v] ∧ RSl 3 RSlot 40 h v xs) :=
  opens_sl Tryz.underlying60 (by kernel_rfl) (by decide) (by kernel_rfl) opens_slot
/-- an argument that is one cell -/
theorem open_cell {P : Program} {H : Type} {enc : TypeId × Value → H} {W : World} {t e : TypeId} {base : Nat} {v : Value} {d : DataW H} {p : List MemPlace} {α : Type} {R : View → Value → α → Prop} (ht : P.underlying t = some (.slice e)) (hval : Value.okWide P W .any base t v)
    (h : DataW.Trod enc P W 0 (fun _ => true) true t v d p) (hw : ∀ n ∈ DataW.weights P t d, n ≤ reachBytes) (ho : OpensTo P t (fun h cs x => ∃ v, cs = [v] ∧ R h v x)) : ∃ x, R W.cell? v x := by
  obtain ⟨fuel, h⟩ := h
  obtain ⟨x, v', hc, hr⟩ := ho H enc W fuel _ _ h hw
  obtain ⟨a, n, c, rfl⟩ := okWide_slice ht hval
  obtain rfl : Value.slice a n c = v' := by simpa [Value.cells] using hc
  exact ⟨x, hr⟩
end Go.Proofs.YtbcoecmeoemmeaaGreatDoor

namespace Go.Proofs.YtbcoecmeoemmeaaGreatDoor
open Go.ChangeShapes Go.WideShapes Go.ChangeAt Go.RowKit
set_option linter.unusedVariables false
set_option linter.unusedSimpArgs false
theorem his_docY {l : List Crt} {k : List UInt8} {ys ys' : List Nat} (hE : foundE l k = 0) (h1 : HisI l k ys) (h2 : DocY l k ys') : ys = ys' := by
  obtain ⟨met, hd, hp, hs⟩ := h1
  obtain ⟨ws, hw, rfl⟩ := h2
  obtain ⟨hdag, hpl⟩ := found_zero hE
  have hg := dag_good hdag
  have hkl : plc (dsOf hD l) k < l.length := by have := place_lt hpl; rwa [dsOf_len] at this
  have htop : hdrAt l (plc (dsOf hD l) k) = l[plc (dsOf hD l) k].hdr := by unfold hdrAt; simp [hkl]
  have hr1 := hg.rnd _ (List.getElem_mem hkl)
  exact hist_is (top := (hdrAt l (plc (dsOf hD l) k)).round.toNat) hg hw (fun i c hi hc => by
    obtain ⟨c', h3, h4⟩ := Rch.round hg (hw.rch i hi) (ck := l[plc (dsOf hD l) k]) (by simp [hkl])
    rw [hc] at h3
    obtain rfl := Option.some.inj h3
    rw [htop]
    omega) hd hp hs
theorem blk_same {l : List Crt} {bs : List Bat} {k : List UInt8} {E E' : Int} {T T' : List ByteArray} (h1 : blkOut (HisI l k) l bs k E T) (h2 : blkOut (DocY l k) l bs k E' T') : E = E' ∧ T = T' := by
  rcases h1 with ⟨a1, a2, a3⟩ | ⟨a1, a2, a3, a4⟩ | ⟨a1, a2, ys, a3, a4⟩ <;> rcases h2 with ⟨b1, b2, b3⟩ | ⟨b1, b2, b3, b4⟩ | ⟨b1, b2, zs, b3, b4⟩
  · exact ⟨a2.trans b2.symm, a3.trans b3.symm⟩
  · exact absurd b1 a1
  · exact absurd b1 a1
  · exact absurd a1 b1
  · exact ⟨a3.trans b3.symm, a4.trans b4.symm⟩
  · exact absurd b2 a2
  · exact absurd a1 b1
  · exact absurd a2 b2
  · obtain rfl := his_docY a1 a3 b3
    rcases a4 with ⟨c1, c2, c3⟩ | ⟨c1, c2⟩ <;> rcases b4 with ⟨d1, d2, d3⟩ | ⟨d1, d2⟩
    · exact ⟨c2.trans d2.symm, c3.trans d3.symm⟩
    · rw [c1] at d1; cases d1
    · rw [c1] at d1; cases d1
    · exact ⟨c2.trans d2.symm, Option.some.inj (c1.symm.trans d1)⟩
set_option maxHeartbeats 1000000 in
set_option maxRecDepth 100000 in
theorem sameBatches_same (va vb : Value) (l : List Bat) (w : World) (ha : RBats w.cell? va l) (hb : RBats w.cell? vb l) :
    Calls Tryz.prog 17 #[va, vb] w fun e w' => e = .returned (.bool true) ∧ Below w.heap.size w w' := by
  obtain ⟨A, c, rfl, hf1⟩ := id ha
  obtain ⟨B, d, rfl, hf2⟩ := id hb
  obtain ⟨-, hc1, hlen, hel⟩ := RBats.at ha
  obtain ⟨-, hc2, -, hel2⟩ := RBats.at hb
  have Hel := Lib.hid hel
  have Hel2 := Lib.hid hel2
  clear hel hel2 ha hb hf1 hf2
  go_enter Tryz.func17, Tryz.ntmps17
  go_wp2
  go_loopw [5] (fun i wr => ∃ k : Nat, k ≤ l.length ∧ i = .int .i64 k ∧ Below w.heap.size w wr) (fun i _ => l.length - (intOf i).toNat)
  case atStart => exact ⟨0, Nat.zero_le _, rfl, Below.refl _ _⟩
  case round =>
    obtain ⟨k, hk, rfl, hbl⟩ := hrel
    have hz := hbl.size
    by_cases hlt : k < l.length
    · obtain ⟨b0, o0, xd, rfl, e0, e1, e2, r1, -⟩ := Hel.out k hlt
      obtain ⟨b1, o1, yd, rfl, f0, f1, f2, s1, -⟩ := Hel2.out k hlt
      have c0 := vle_below hbl _ _ e0; have c1 := vle_below hbl _ _ e1; have c2 := vle_below hbl _ _ e2
      have g0 := vle_below hbl _ _ f0; have g1 := vle_below hbl _ _ f1; have g2 := vle_below hbl _ _ f2
      clear e0 e1 e2 f0 f1 f2
      generalize l[k] = x at *
      go_wp2
      refine wp_region_pl (fun w' => Below wr.heap.size wr w') [] (.q 0 (.q 1 (.q 2 (.q 3 (.q 4 (.q 5 (.q 6 (.q 7 (.l 8 (.q 9 .nil)))))))))) (by kernel_rfl) (by kernel_rfl) (fun _ _ d _ _ h => by cases d <;> exact h) rfl (by kernel_rfl) ?_ ?_
      · exact below_drew _
      intro W hS
      repeat (first
        | (refine pl_q (by assumption) rfl rfl ?_; apply Exists.intro; refine ⟨fun w' hS => ?_, ?_⟩; (· (have q := vle_below hS; have a0 := q _ _ c0; have a1 := q _ _ c1; have a2 := q _ _ c2; have b0 := q _ _ g0; have b1 := q _ _ g1; have b2 := q _ _ g2; go_simp; exact rfl)); simp only [List.getElem_toArray, List.getElem_cons_zero, List.getElem_cons_succ, Act.put, List.setIfInBounds_toArray, List.set_cons_zero, List.set_cons_succ])
        | (refine pl_qc rfl rfl ?_; apply Exists.intro; refine ⟨fun w' _ => ?_, ?_⟩; (· (go_simp; exact rfl)); simp only [List.getElem_toArray, List.getElem_cons_zero, List.getElem_cons_succ, Act.put, List.setIfInBounds_toArray, List.set_cons_zero, List.set_cons_succ])
        | (refine pl_skip (by assumption) rfl rfl ?_; simp only [List.getElem_toArray, List.getElem_cons_zero, List.getElem_cons_succ, Act.put, List.setIfInBounds_toArray, List.set_cons_zero, List.set_cons_succ])
        | (refine pl_skipl (by assumption) rfl rfl ?_; simp only [List.getElem_toArray, List.getElem_cons_zero, List.getElem_cons_succ, Act.put, List.setIfInBounds_toArray, List.set_cons_zero, List.set_cons_succ]))
      first
        | refine pl_do rfl rfl (fun K hK => ?_)
        | refine op_do rfl rfl (fun K hK => ?_)
      try simp only [List.getElem_toArray, List.getElem_cons_zero, List.getElem_cons_succ]
      go_simp
      have qq := vle_below (hbl.trans (hS.mono hz))
      refine (sameBatch_same _ _ _ _ x.txs _ (r1.mono qq) (s1.mono qq)).mono ?_
      rintro e w2 ⟨rfl, hb2⟩
      refine hK.out _ _ (hS.trans (hb2.mono hS.size)) (fun hS => ?_)
      clear hK K
      try simp only [List.getElem_toArray, List.getElem_cons_zero, List.getElem_cons_succ, Act.put, List.setIfInBounds_toArray, List.set_cons_zero, List.set_cons_succ]
      repeat (first
        | (refine pl_q (by assumption) rfl rfl ?_; apply Exists.intro; refine ⟨fun w' hS => ?_, ?_⟩; (· (skip; go_simp; exact rfl)); simp only [List.getElem_toArray, List.getElem_cons_zero, List.getElem_cons_succ, Act.put, List.setIfInBounds_toArray, List.set_cons_zero, List.set_cons_succ])
        | (refine pl_qc rfl rfl ?_; apply Exists.intro; refine ⟨fun w' _ => ?_, ?_⟩; (· (go_simp; exact rfl)); simp only [List.getElem_toArray, List.getElem_cons_zero, List.getElem_cons_succ, Act.put, List.setIfInBounds_toArray, List.set_cons_zero, List.set_cons_succ])
        | (refine pl_skip (by assumption) rfl rfl ?_; simp only [List.getElem_toArray, List.getElem_cons_zero, List.getElem_cons_succ, Act.put, List.setIfInBounds_toArray, List.set_cons_zero, List.set_cons_succ])
        | (refine pl_skipl (by assumption) rfl rfl ?_; simp only [List.getElem_toArray, List.getElem_cons_zero, List.getElem_cons_succ, Act.put, List.setIfInBounds_toArray, List.set_cons_zero, List.set_cons_succ]))
      refine pl_nil ?_
      go_wp2
      go_roundw
      case rel => exact ⟨k + 1, by omega, by go_num, hbl.trans (hS.mono hz)⟩
      case measure => simp [intOf] <;> omega
    · go_wp2
      go_ret
      exact ⟨rfl, hbl⟩
set_option maxHeartbeats 4000000 in
set_option maxRecDepth 100000 in
theorem orderBlocks_any (vl vb vk : Value) (l : List Crt) (bs : List Bat) (k : List UInt8) (w : World) (hl : RCrts w.cell? vl l) (hb : RBats w.cell? vb bs) (hk : RBytes w.cell? vk k) (hT : Tabs w.cell?) :
    Calls Tryz.prog 4 #[.agg #[vl], vb, vk] w fun e w' => e = .returned (.bool true) ∧ Below w.heap.size w w' := by
  obtain ⟨A, c, rfl, hf0⟩ := id hl
  obtain ⟨B, d, rfl, hf2⟩ := id hb
  obtain ⟨kA, kc, rfl, hf1⟩ := id hk
  clear hf0 hf1 hf2
  have hlen : l.length * 88 ≤ 140737488355328 := by obtain ⟨_, _, _, _, _, h, _⟩ := hl; exact h
  have Hlen := Lib.hid hb.len
  have hkl := hk.len
  go_enter Tryz.func4, Tryz.ntmps4
  go_upto_region 1 with fail
  refine one_block _ _ _ (fun W => Code.wp _ _ _ _ W) (fun W hk1 hsz hbW => ?_)
  clear hsz
  have hzW := hbW.size
  go_wp2_with fail
  refine (batches_any _ bs _ (hb.mono RBat.mono (vle_below hbW))).mono ?_
  rintro e w1 ⟨v1, rfl, hb1, o1⟩
  have hbl1 := hbW.trans (hb1.mono hzW)
  have hz1 := hbl1.size
  have hk1 := hk1.kept hb1
  have g0 := hk1.cell 0
  simp at g0
  have r1 := RSl.weak (R' := RBat) (bs := 40) (fun h cs x hr => RBat.mono _ _ _ _ hr (View.from_le _ _)) (o1.reads (RFrom.mono RBat.mono) Hlen.out)
  obtain ⟨A1, c1, rfl⟩ := o1.form
  clear o1
  go_wp2_with fail
  refine (dagCopy_any _ l _ (hl.mono RCrt.mono (vle_below hbl1))).mono ?_
  rintro e w2 ⟨v2, rfl, hb2, o2⟩
  have hbl2 := hbl1.trans (hb2.mono hz1)
  have hz2 := hbl2.size
  obtain ⟨A2, c2, rfl⟩ := o2.form
  have r2 : RCrts w2.cell? _ l := RSl.weak (fun h cs x hr => RCrt.mono _ _ _ _ hr (View.from_le _ _)) (o2.reads (RFrom.mono RCrt.mono) hlen)
  clear o2 g0
  go_wp2_with fail
  refine (octets_any _ k _ (hk.mono (vle_below hbl2))).mono ?_
  rintro e w3 ⟨v3, rfl, hb3, o3⟩
  have hbl3 := hbl2.trans (hb3.mono hz2)
  have hz3 := hbl3.size
  have r3 := o3.reads (bs := 1) hkl
  obtain ⟨A3, c3, rfl⟩ := o3.form
  clear o3
  have rB := r1.mono RBat.mono ((vle_below hb2).trans (vle_below hb3))
  go_wp2_with fail
  refine (block_any _ _ _ l bs k _ (r2.mono RCrt.mono (vle_below hb3)) rB r3 (hT.mono (vle_below hbl3))).mono ?_
  rintro e w4 ⟨v4, E, rfl, hb4, T, rT, hout⟩
  have hbl4 := hbl3.trans (hb4.mono hz3)
  have hz4 := hbl4.size
  have hk4 := ((hk1.kept hb2).kept hb3).kept hb4
  have g0 := hk4.cell 0
  simp at g0
  obtain ⟨A4, c4, rfl, hf⟩ := id rT
  have Hout := Lib.hid hout
  clear r1 r2 r3 hf hout
  go_wp2_with fail
  refine (blockOf_any _ _ _ l bs k _ (hl.mono RCrt.mono (vle_below hbl4)) (hb.mono RBat.mono (vle_below hbl4)) (hk.mono (vle_below hbl4))).mono ?_
  rintro e w5 ⟨v5, E', rfl, hb5, T', rT', hout'⟩
  have hbl5 := hbl4.trans (hb5.mono hz4)
  have hz5 := hbl5.size
  obtain ⟨hEE, hTT⟩ := blk_same Hout.out hout'
  subst hEE
  subst hTT
  obtain ⟨A5, c5, rfl, hf⟩ := id rT'
  clear hf hout' Hout g0
  go_wp2_with fail
  refine (sameTexts_same _ _ T _ (rT.mono (vle_below hb5)) rT').mono ?_
  rintro e w6 ⟨rfl, hb6⟩
  have hbl6 := hbl5.trans (hb6.mono hz5)
  go_wp2_with fail
  refine (sameBatches_same _ _ bs _ (rB.mono RBat.mono (((vle_below hb4).trans (vle_below hb5)).trans (vle_below hb6))) (hb.mono RBat.mono (vle_below hbl6))).mono ?_
  rintro e w7 ⟨rfl, hb7⟩
  go_wp2
  go_ret
  exact ⟨rfl, hbl6.trans (hb7.mono hbl6.size)⟩
set_option maxHeartbeats 1000000 in
set_option maxRecDepth 100000 in
theorem orderBlocks_open {H : Type} {enc : TypeId × Value → H} (W : World) (hT : Tabs W.cell?) {base : Nat} {v v1 v2 : Value} {d d1 d2 : DataW H} {p p1 p2 : List MemPlace} (hval : Value.okWide Tryz.prog W .any base 39 v) (h : DataW.Trod enc Tryz.prog W 0 (fun _ => true) true 39 v d p)
    (hw : ∀ n ∈ DataW.weights Tryz.prog 39 d, n ≤ reachBytes) (hval1 : Value.okWide Tryz.prog W .any base 40 v1) (h1 : DataW.Trod enc Tryz.prog W 0 (fun _ => true) true 40 v1 d1 p1)
    (hw1 : ∀ n ∈ DataW.weights Tryz.prog 40 d1, n ≤ reachBytes) (hval2 : Value.okWide Tryz.prog W .any base 41 v2) (h2 : DataW.Trod enc Tryz.prog W 0 (fun _ => true) true 41 v2 d2 p2)
    (hw2 : ∀ n ∈ DataW.weights Tryz.prog 41 d2, n ≤ reachBytes) : Calls Tryz.prog 4 #[v, v1, v2] W fun e w' => e = .returned (.bool true) ∧ Below W.heap.size W w' := by
  obtain ⟨l, x, rfl, hl⟩ := open_dag hval h hw
  obtain ⟨bs, hb⟩ := open_cell (R := RBats) Tryz.underlying40 hval1 h1 hw1 opens_bats
  obtain ⟨k, hk⟩ := open_bytesD hval2 h2 hw2
  exact orderBlocks_any _ _ _ l bs k _ hl hb hk hT
set_option maxRecDepth 100000 in
theorem orderBlocks_lifted (os : Os) (started : os.Started) (H : Type) (enc : TypeId × Value → H) :
    ReturnsInHanded {} Tryz.checked os 4 .any (fun w args => (Rows.orderBlocksSpec.pre enc Tryz.prog Tryz.f4 [] false w args ∧ laidMetH Tryz.prog laid3 w) ∧ sizedMet enc Tryz.prog Tryz.f4 (OpenSpec.ofChange Rows.orderBlocksSpec) false w args) (Rows.orderBlocksSpec.post enc Tryz.prog Tryz.f4 false true false false) := by
  refine returnsInHanded_of_change_and (C := Tryz.checked) (X := fun w _ => laidMetH Tryz.prog laid3 w) (fun _ _ _ hh h => h.of_heap hh) own_ started (by kernel_rfl) Tryz.func4
    (ChangeSpec.witness_shaped (enc := enc) (C := Tryz.checked) (os := os) (X := fun w _ => laidMetH Tryz.prog laid3 w) false (World.doorLaid Tryz.prog 400 os) #[.agg #[.slice none 0 0], .slice none 0 0, .slice none 0 0] 8 rfl (World.shaped_of_RefB (by kernel_rfl) (by kernel_rfl)) (by kernel_rfl) (by kernel_rfl) (by kernel_rfl) (door_met os _)) ?_
  intro W base args ds gs before hval0 hW _ hsz hL _
  have hval : ∀ (j : Nat) t v, Tryz.f4.params[j]? = some t → args[j]? = some v → Value.okWide Tryz.prog W .any base t v := hval0
  have hW' := hW
  obtain ⟨p, q, hA, hV, rfl, hfz, hnd⟩ := hW
  obtain ⟨rfl, rfl⟩ := trodVars_none hV
  have hA : DataW.TrodAll enc Tryz.prog W 0 (fun _ => true) true Tryz.f4.params.toList args.toList ds p := hA
  rw [Tryz.params4] at hA hval hsz
  obtain ⟨v0, v1, v2, d0, d1, d2, p0, p1, p2, rfl, rfl, rfl, h0, h1, h2⟩ := trodAll_three hA
  have hs0 : ∀ n ∈ DataW.weights Tryz.prog _ d0, n ≤ reachBytes := fun n hn => by simpa using List.all_eq_true.1 hsz n (DataW.weights_mem_each (j := 0) rfl rfl n hn)
  have hs1 : ∀ n ∈ DataW.weights Tryz.prog _ d1, n ≤ reachBytes := fun n hn => by simpa using List.all_eq_true.1 hsz n (DataW.weights_mem_each (j := 1) rfl rfl n hn)
  have hs2 : ∀ n ∈ DataW.weights Tryz.prog _ d2, n ≤ reachBytes := fun n hn => by simpa using List.all_eq_true.1 hsz n (DataW.weights_mem_each (j := 2) rfl rfl n hn)
  refine (orderBlocks_open W (of_laid hL) (hval 0 _ _ rfl rfl) h0 hs0 (hval 1 _ _ rfl rfl) h1 hs1 (hval 2 _ _ rfl rfl) h2 hs2).mono fun e W' ⟨he, hb⟩ => ?_
  exact law_close laidOut (b := 4) rfl Tryz.underlying4 rfl (readables _ (by kernel_rfl)) rfl hW' he hb
theorem orderBlocks_holds : Rows.OrderBlocksSaid :=
  OpenClaim.holds_of_wide 4 Tryz.f4 rfl rfl rfl rfl rfl rfl rfl ⟨rfl, rfl, rfl, rfl, rfl⟩ rfl rfl rfl rfl rfl (by kernel_rfl) Tryz.func4 (by kernel_rfl)
    (of_decide_eq_true (by kernel_rfl)) (by unfold Func.isWrapper; first | (rw [if_pos (by decide +kernel)]; kernel_rfl) | (rw [if_neg (by decide +kernel)]; exact ⟨rfl, rfl⟩))
    (fun os started H enc _ => orderBlocks_lifted os started H enc)
theorem orderBlocks_card : Rows.OrderBlocksCardSaid :=
  Claim7.holds_tied_plain_at .later [] [.widerDeep, .data, .data] true Rows.orderBlocksCard.stood.harness false
    orderBlocks_holds (fun _ h => by cases h) (by kernel_rfl) (fun _ h => by cases h) orderBlocks_row_tie rfl ⟨rfl, rfl⟩ (by kernel_rfl) rfl
    (fun f fn hf hfn => by
      obtain rfl : f = 4 := Option.some.inj ((show Tryz.prog.funcNamed "sheaves/sheaveslaw.OrderBlocks" = some 4 by kernel_rfl).symm.trans hf) |>.symm
      obtain rfl : fn = Tryz.f4 := (Option.some.inj (Tryz.func4.symm.trans hfn)).symm
      exact ⟨by kernel_rfl, fun j t ht => by
        have hall : (Tryz.f4.params.toList.all fun u => !Tryz.prog.wantsStandIn u) = true := by kernel_rfl
        have := List.all_eq_true.1 hall t (by simpa using Array.mem_of_getElem? ht)
        exact (show Tryz.prog.wantsStandIn t = false by simpa using this)⟩)
    (by kernel_rfl)
end Go.Proofs.YtbcoecmeoemmeaaGreatDoor
