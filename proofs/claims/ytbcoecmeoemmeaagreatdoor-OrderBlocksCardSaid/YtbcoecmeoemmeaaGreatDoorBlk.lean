/- Blocks that are known whole: boxes of parameters, results that lie in memory, stores into them. -/
import Derived.Test.YtbcoecmeoemmeaaGreatDoorPlan
namespace Go.Proofs.YtbcoecmeoemmeaaGreatDoor
open Go.ChangeShapes Go.WideShapes Go.ChangeAt Go.RowKit
set_option linter.unusedVariables false
/-- block g is just these cells -/
def Blk (w : World) (g : Nat) (t : TypeId) (cs : Array Value) : Prop := w.heap[g]? = some (.cells cs t (0, 0))
section
variable {w w' : World} {g : Nat} {t : TypeId} {cs : Array Value}
theorem Blk.lt (h : Blk w g t cs) : g < w.heap.size := (Array.getElem?_eq_some_iff.1 h).1
theorem Blk.cell (h : Blk w g t cs) (i : Nat) : w.cell? ⟨g, i, none⟩ = cs[i]? := cell_of_row w g i cs t (0, 0) h
theorem Blk.frozen (h : Blk w g t cs) (i : Nat) : w.frozen? ⟨g, i, none⟩ = false := by
  unfold Blk at h
  simp [World.frozen?, h]
theorem Blk.new (w : World) (t : TypeId) (cs : Array Value) : Blk (w.alloc (.cells cs t)) w.heap.size t cs := heap_alloc_new w _
theorem Blk.alloc (h : Blk w g t cs) (o : Obj) : Blk (w.alloc o) g t cs := (Below.heap_alloc w o g h.lt).trans h
theorem Blk.drew (h : Blk w g t cs) : Blk w.drew g t cs := h
theorem Blk.below {B : Nat} (h : Blk w g t cs) (hb : Below B w w') (hg : g < B) : Blk w' g t cs := (hb.block g hg).trans h
theorem Blk.kept (h : Blk w g t cs) (hb : Below w.heap.size w w') : Blk w' g t cs := h.below hb h.lt
theorem Blk.grown {row : Option Nat} (h : Blk w g t cs) (hb : w.grownBy w' row) (hg : some g ≠ row) : Blk w' g t cs := (hb.block g h.lt hg).trans h
end
theorem grownBy_refl (w : World) (r : Option Nat) : w.grownBy w r := ⟨rfl, rfl, rfl, Nat.le_refl _, fun _ _ _ => rfl⟩
theorem grownBy_drew (w : World) (r : Option Nat) : w.grownBy w.drew r := ⟨rfl, rfl, rfl, Nat.le_refl _, fun _ _ _ => rfl⟩
theorem grownBy_trans {a b c : World} {r : Option Nat} (h : a.grownBy b r) (k : b.grownBy c r) : a.grownBy c r :=
  ⟨k.os.trans h.os, k.tape.trans h.tape, k.output.trans h.output, Nat.le_trans h.size k.size, fun i hi hne => (k.block i (Nat.lt_of_lt_of_le hi h.size) hne).trans (h.block i hi hne)⟩
theorem grownBy_below {a b : World} (r : Option Nat) (h : Below a.heap.size a b) : a.grownBy b r := ⟨h.os, h.tape, h.output, h.size, fun i hi _ => h.block i hi⟩
theorem below_grownBy {W a b : World} {B : Nat} {r : Option Nat} (h : Below B W a) (hB : B ≤ a.heap.size) (hg : a.grownBy b r) (hr : ∀ k, r = some k → B ≤ k) : Below B W b := h.grown hg hB hr
theorem vle_grown {w w' : World} {g : Nat} (hg : w.grownBy w' (some g)) : VLe (View.but w.cell? (some g)) w'.cell? := (vle_but hg).trans (View.but_le _ _)
/-- what lies below block g reads without it -/
theorem RVec.below_but {α : Type} {enc : α → Value} {bs : Nat} {w : World} {v : Value} {xs : List α} (hr : RVec enc bs w.cell? v xs) {W : World} {g : Nat} (hb : Below w.heap.size w W) (hg : w.heap.size ≤ g) : RVec enc bs (View.but W.cell? (some g)) v xs := by
  refine hr.mono fun a u hu => ?_
  have hlt := World.block_lt_of_cell? w a hu
  unfold View.but
  rw [if_neg (by intro e; injection e with e; omega)]
  exact vle_below hb _ _ hu

/-- a parameter's box, and a result's block -/
theorem two_blocks (w : World) (c1 c2 : Array Value) (t1 t2 : TypeId) (R : World → Prop)
    (h : ∀ W, Blk W w.heap.size t1 c1 → Blk W (w.heap.size + 1) t2 c2 → W.heap.size = w.heap.size + 2 → Below w.heap.size w W → R W) : R ((w.alloc (.cells c1 t1)).alloc (.cells c2 t2)) := by
  refine h _ ((Blk.new w t1 c1).alloc _) ?_ (by simp) (((Below.refl _ _).alloc (Nat.le_refl _) _).alloc (le_alloc _ (Nat.le_refl _)) _)
  have := Blk.new (w.alloc (.cells c1 t1)) t2 c2
  simpa using this

theorem one_block (w : World) (c1 : Array Value) (t1 : TypeId) (R : World → Prop)
    (h : ∀ W, Blk W w.heap.size t1 c1 → W.heap.size = w.heap.size + 1 → Below w.heap.size w W → R W) : R (w.alloc (.cells c1 t1)) :=
  h _ (Blk.new w t1 c1) (by simp) (below_one _ _)
/-- a store into a block that is known whole -/
theorem run_store_blk {P : Program} {w : World} {t te : TypeId} {g o n : Nat} {cur : Array Value} {v : Value} (hi : (P.info? t).map (·.size) = some n) (hn : v.cells.size = n) (hb : Blk w g te cur) (hfit : o + n ≤ cur.size) (h1 : ∀ u ∈ v.cells.toList, u.oneCell' = true) :
    (Instr.storeAt t (.pointer (some ⟨g, o, none⟩)) v).run P w = .ok () (w.setRow g (cur.toList.take o ++ v.cells.toList ++ cur.toList.drop (o + n)).toArray) := by
  obtain ⟨i, hi', rfl⟩ := Option.map_eq_some_iff.1 hi
  have hs := run_storeCells_at P g o te v.cells.toList 0 cur w hb (by rw [Array.length_toList]; omega) h1
  simp only [Nat.add_zero, Array.length_toList, hn] at hs
  simp [Instr.storeAt, Instr.sureAddr, storeVar, sizeOf, typeInfo, hi', hn, hs]
theorem blk_set {w : World} {g : Nat} {te : TypeId} {cur : Array Value} (hb : Blk w g te cur) (new : Array Value) : Blk (w.setRow g new) g te new ∧ w.grownBy (w.setRow g new) (some g) :=
  ⟨setRow_heap w g cur new te (0, 0) hb, rfl, rfl, rfl, by simp [World.setRow], fun k _ hk => setRow_other w g k new (fun e => hk (by rw [e]))⟩
theorem wp_store_blk {P : Program} {o : Oper} {a : Act} {w : World} {K : Act → World → Prop} {Q : Exit → Act → World → Prop} {t te : TypeId} {x y : Operand} {g off n : Nat} {cs : Array Value} {v : Value}
    (ho : o.op = .store t x y) (hx : a.eval x = .pointer (some ⟨g, off, none⟩)) (hy : a.eval y = v) (hi : (P.info? t).map (·.size) = some n) (hn : v.cells.size = n) (hb : Blk w g te cs) (hfit : off + n ≤ cs.size) (h1 : (v.cells.toList.all fun u => u.oneCell') = true)
    (h : ∀ w', Blk w' g te (cs.toList.take off ++ (v.cells.toList ++ cs.toList.drop (off + n))).toArray → w.grownBy w' (some g) → K (a.put o.dst undef) w') : o.wp P a w K Q := by
  have hr := run_store_blk (P := P) hi hn hb hfit (fun u hu => List.all_eq_true.1 h1 u hu)
  obtain ⟨h2, h3⟩ := blk_set hb (cs.toList.take off ++ (v.cells.toList ++ cs.toList.drop (off + n))).toArray
  unfold Oper.wp execOp
  simp [ho, hx, hy, hr, Result.andThen, Oper.upon]
  exact h _ h2 h3
/-- a store of a whole struct -/
theorem wp_store_whole {P : Program} {o : Oper} {a : Act} {w : World} {K : Act → World → Prop} {Q : Exit → Act → World → Prop} {t te : TypeId} {x y : Operand} {g n : Nat} {cs new : Array Value}
    (ho : o.op = .store t x y) (hx : a.eval x = .pointer (some ⟨g, 0, none⟩)) (hy : a.eval y = .agg new) (hi : (P.info? t).map (·.size) = some n) (hn : new.size = n) (hb : Blk w g te cs) (hcs : cs.size = n) (h1 : (new.toList.all fun u => u.oneCell') = true)
    (h : ∀ w', Blk w' g te new → w.grownBy w' (some g) → K (a.put o.dst undef) w') : o.wp P a w K Q := by
  refine wp_store_blk ho hx hy hi hn hb (by omega) h1 (fun w' hb' hg => h w' ?_ hg)
  have e : (cs.toList.take 0 ++ ((Value.agg new).cells.toList ++ cs.toList.drop (0 + n))).toArray = new := by
    rw [List.drop_of_length_le (by simp [hcs])]
    simp [Value.cells]
  rwa [e] at hb'
/-- a load out of a block that is known whole -/
theorem run_load_blk {P : Program} {w : World} {t te : TypeId} {g o n : Nat} {cur : Array Value} (hagg : (isAgg t).run P w = .ok true w) (hi : (P.info? t).map (·.size) = some n) (hb : Blk w g te cur) (hfit : o + n ≤ cur.size) :
    (loadVar t ⟨g, o, none⟩).run P w = .ok (.agg ((cur.toList.drop o).take n).toArray) w := by
  obtain ⟨i, hi', rfl⟩ := Option.map_eq_some_iff.1 hi
  have hl : ((cur.toList.drop o).take i.size).length = i.size := by simp; omega
  have := run_loadCells_list (P := P) w ⟨g, o, none⟩ ((cur.toList.drop o).take i.size) (fun j v hj => by
    rw [add_off, hb.cell]
    rw [List.getElem?_take] at hj
    split at hj
    · simpa using hj
    · cases hj)
  rw [hl] at this
  simp [loadVar, hagg, sizeOf, typeInfo, hi', this]
theorem results_blk {P : Program} {fn : Func} {p : Tmp} {t te : TypeId} {w : World} {g n : Nat} {cur : Array Value} {tmps : Array Value} (h : fn.results = #[.cell p t]) (hp : tmps.getD p undef = .pointer (some ⟨g, 0, none⟩)) (hagg : (isAgg t).run P w = .ok true w) (hi : (P.info? t).map (·.size) = some n) (hb : Blk w g te cur) (hn : cur.size = n) :
    (results fn tmps).run P w = .ok (.agg cur) w := by
  have := run_load_blk (P := P) hagg hi hb (o := 0) (by omega)
  rw [List.drop_zero, List.take_of_length_le (by simp [hn])] at this
  simp only [results, h]
  have hp' : tmps[p]?.getD undef = .pointer (some ⟨g, 0, none⟩) := by simpa using hp
  simp [Sem.run_bind, Result.andThen, hp', asAddr, this]
theorem results_blk_tmp {P : Program} {fn : Func} {p u : Tmp} {t te : TypeId} {w : World} {g n : Nat} {cur : Array Value} {tmps : Array Value} (h : fn.results = #[.cell p t, .tmp u]) (hp : tmps.getD p undef = .pointer (some ⟨g, 0, none⟩)) (hagg : (isAgg t).run P w = .ok true w) (hi : (P.info? t).map (·.size) = some n) (hb : Blk w g te cur) (hn : cur.size = n) :
    (results fn tmps).run P w = .ok (.tuple #[.agg cur, tmps.getD u undef]) w := by
  have := run_load_blk (P := P) hagg hi hb (o := 0) (by omega)
  rw [List.drop_zero, List.take_of_length_le (by simp [hn])] at this
  have hp' : tmps[p]?.getD undef = .pointer (some ⟨g, 0, none⟩) := by simpa using hp
  simp only [results, h]
  simp [Sem.run_bind, Result.andThen, hp', asAddr, this]
end Go.Proofs.YtbcoecmeoemmeaaGreatDoor
