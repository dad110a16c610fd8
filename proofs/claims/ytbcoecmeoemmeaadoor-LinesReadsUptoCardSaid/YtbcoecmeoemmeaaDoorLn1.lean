/- A strings.Builder that a call has made: what is written to it, it holds. -/
import Derived.Test.YtbcoecmeoemmeaaDoorBlk
import Derived.Test.YtbcoecmeoemmeaaDoorStrApp
import Derived.Test.YtbcoecmeoemmeaaDoorLnS
import Derived.Lib.Builder
namespace Go.Proofs.YtbcoecmeoemmeaaDoor
open Go.ChangeShapes Go.WideShapes Go.ChangeAt Go.RowKit
set_option linter.unusedVariables false
set_option linter.unusedSimpArgs false
namespace Ln
/-- the builder in block b holds the bytes l; its row lies behind it -/
def Bld (w : World) (b : Nat) (l : List UInt8) : Prop := ∃ p v, Blk w b 35 #[p, v] ∧ (p = .pointer none ∨ p = .pointer (some ⟨b, 0, none⟩)) ∧ OwnVec encB 5 w (b + 1) v l
theorem Bld.lt {w : World} {b : Nat} {l : List UInt8} (h : Bld w b l) : b < w.heap.size := by
  obtain ⟨p, v, h1, _⟩ := h
  exact h1.lt
theorem Bld.kept {w w' : World} {b : Nat} {l : List UInt8} (h : Bld w b l) (hb : Below w.heap.size w w') : Bld w' b l := by
  obtain ⟨p, v, h1, h2, h3⟩ := h
  exact ⟨p, v, h1.kept hb, h2, h3.kept hb⟩
theorem Bld.new (w : World) : Bld (w.alloc (.cells #[.pointer none, .slice none 0 0] 35)) w.heap.size [] :=
  ⟨_, _, Blk.new w _ _, .inl rfl, OwnVec.nil _ _ _ _⟩
theorem builder_info : ∃ j, Tryd.prog.info? 35 = some j ∧ j.size = 2 := Option.map_eq_some_iff.1 (show (Tryd.prog.info? 35).map (·.size) = some 2 by kernel_rfl)
theorem run_convert_to (w : World) (b : Nat) (hsh : w.shape? b = some (35, 2)) : (convert 32 69 (.pointer (some ⟨b, 0, none⟩))).run Tryd.prog w = .ok (.pointer (some ⟨b, 0, none⟩)) w := by
  obtain ⟨j, hj, hs⟩ := builder_info
  exact Lib.run_to_unsafe w ⟨b, 0, none⟩ Tryd.underlying32 Tryd.underlying69 hj (by rw [hs]; decide) hsh (Nat.zero_lt_succ 1)
theorem run_convert_from (w : World) (b : Nat) (hsh : w.shape? b = some (35, 2)) : (convert 69 32 (.pointer (some ⟨b, 0, none⟩))).run Tryd.prog w = .ok (.pointer (some ⟨b, 0, none⟩)) w := by
  obtain ⟨j, hj, hs⟩ := builder_info
  exact Lib.run_from_unsafe w ⟨b, 0, none⟩ Tryd.underlying69 Tryd.underlying32 hj hsh (by kernel_rfl)
theorem run_same_ptr (w : World) (b : Nat) : (binOp .neq 32 (.pointer (some ⟨b, 0, none⟩)) (.pointer (some ⟨b, 0, none⟩))).run Tryd.prog w = .ok (.bool false) w := by
  obtain ⟨j, hj, hs⟩ := builder_info
  exact Lib.run_neq_ptr_same w _ Tryd.underlying32 hj
theorem blk_shape {w : World} {b : Nat} {t : TypeId} {cs : Array Value} (h : Blk w b t cs) : w.shape? b = some (t, cs.size) := by
  unfold Blk at h
  simp [World.shape?, h]
theorem blk_setCell {w : World} {b : Nat} {t : TypeId} {cs : Array Value} (h : Blk w b t cs) (i : Nat) (u : Value) : Blk (w.setCell ⟨b, i, none⟩ u) b t (cs.setIfInBounds i u) ∧ w.grownBy (w.setCell ⟨b, i, none⟩ u) (some b) := by
  refine ⟨?_, rfl, rfl, rfl, by simp [World.setCell], fun k _ hk => Below.heap_setCell _ _ _ _ (fun e => hk (by simp [e]))⟩
  unfold Blk at h ⊢
  simp [World.setCell, Array.getElem?_modify, h]
set_option maxHeartbeats 1000000 in
set_option maxRecDepth 100000 in
theorem copyCheck_any (b : Nat) (l : List UInt8) (w : World) (h : Bld w b l) :
    Calls Tryd.prog 22 #[.pointer (some ⟨b, 0, none⟩)] w fun e w' => e = .returned (.tuple #[]) ∧ Bld w' b l ∧ w.grownBy w' (some b) := by
  obtain ⟨p, v, h1, h2, h3⟩ := h
  have hsh := blk_shape h1
  have h1c := h1.cell 0
  have h1f := h1.frozen 0
  simp at h1c
  have hlt := h1.lt
  rcases h2 with rfl | rfl
  · go_enter Tryd.func22, Tryd.ntmps22
    go_wp2
    rw [run_convert_to w b hsh]
    simp only [Result.andThen]
    rw [Oper.upon_value]
    go_wp2
    rw [run_callFunc_extern Tryd.func40 (by kernel_rfl) (by kernel_rfl) (by kernel_rfl) (e := Extern.AbiNoEscape.same) (by kernel_rfl)]
    rw [Lib.run_noEscape]
    simp only [Result.andThen]
    rw [Oper.upon_value]
    go_wp2
    rw [run_convert_from w b hsh]
    simp only [Result.andThen]
    rw [Oper.upon_value]
    go_wp2
    go_end0
    obtain ⟨k1, k2⟩ := blk_setCell h1 0 (.pointer (some ⟨b, 0, none⟩))
    exact ⟨rfl, ⟨_, v, k1, .inr rfl, h3.grown k2 (by omega)⟩, k2⟩
  · go_enter Tryd.func22, Tryd.ntmps22
    go_wp2
    rw [run_same_ptr]
    simp only [Result.andThen]
    rw [Oper.upon_value]
    go_wp2
    go_end0
    exact ⟨rfl, ⟨_, v, h1, .inr rfl, h3⟩, grownBy_refl _ _⟩
theorem wpList_store_blkL {P : Program} {ops : Array Oper} {rest : List Oper} {o : Oper} {a : Act} {w : World} {Q : Exit → Act → World → Prop} {t te : TypeId} {x y : Operand} {g off n : Nat} {cs : Array Value} {v : Value} (hgd : o.guard = none)
    (ho : o.op = .store t x y) (hx : a.eval x = .pointer (some ⟨g, off, none⟩)) (hy : a.eval y = v) (hi : (P.info? t).map (·.size) = some n) (hn : v.cells.size = n) (hb : Blk w g te cs) (hfit : off + n ≤ cs.size) (h1 : (v.cells.toList.all fun u => u.oneCell') = true)
    (h : ∀ w', Blk w' g te (cs.toList.take off ++ (v.cells.toList ++ cs.toList.drop (off + n))).toArray → w.grownBy w' (some g) → wpList P ops Q rest (a.put o.dst undef) w') : wpList P ops Q (o :: rest) a w :=
  wpList_plain hgd fun _ hK => wp_store_blk ho hx hy hi hn hb hfit h1 fun w' h2 h3 => hK _ _ (h w' h2 h3)
theorem below_row {w w1 w2 w3 : World} {b : Nat} (hlt : b < w.heap.size) (h1 : w.grownBy w1 (some b)) (h2 : Below (b + 1) w1 w2) (h3 : w2.grownBy w3 (some b)) : Below b w w3 := by
  have a := below_grownBy (Below.refl b w) (by omega) h1 (by intro k e; injection e; omega)
  have c : Below b w w2 := a.trans (h2.mono (by omega))
  exact below_grownBy c (by have := c.size; omega) h3 (by intro k e; injection e; omega)
/-- all blocks but the builder's and the rows of bytes stand as they stood -/
def Others (b : Nat) (w w' : World) : Prop := ∀ g t cs, Blk w g t cs → g ≠ b → t ≠ 5 → Blk w' g t cs
theorem Others.trans {b : Nat} {w w1 w2 : World} (h : Others b w w1) (k : Others b w1 w2) : Others b w w2 := fun g t cs hb hg ht => k g t cs (h g t cs hb hg ht) hg ht
theorem Others.below {b : Nat} {w w1 : World} (h : Below w.heap.size w w1) : Others b w w1 := fun g t cs hb _ _ => hb.kept h
theorem own_other {w : World} {B g : Nat} {t e : TypeId} {cs : Array Value} {v : Value} {l : List UInt8} (h : OwnVec encB e w B v l) (hb : Blk w g t cs) (ht : t ≠ e) : v.ownBlock ≠ some g := by
  intro e1
  rcases h.own.2 with ⟨rfl, _⟩ | ⟨g', cap, cur, rfl, _, hg, _⟩
  · cases e1
  · injection e1 with e1
    subst e1
    unfold Blk at hb
    rw [hb] at hg
    injection hg with hg
    injection hg with h1 h2
    exact ht h2
theorem others_of {b : Nat} {w w1 w2 w3 : World} {e : TypeId} {B : Nat} {v : Value} {l : List UInt8} (he : e = 5) (h1 : w.grownBy w1 (some b)) (ho : OwnVec encB e w1 B v l) (h2 : w1.grownBy w2 v.ownBlock) (h3 : w2.grownBy w3 (some b)) : Others b w w3 := by
  subst he
  intro g t cs hb hg ht
  have k1 := hb.grown h1 (by simpa using hg)
  have k2 := k1.grown h2 (fun e => own_other ho k1 ht e.symm)
  exact k2.grown h3 (by simpa using hg)
set_option maxHeartbeats 1000000 in
set_option maxRecDepth 100000 in
theorem writeByte_any (b : Nat) (l : List UInt8) (c : UInt8) (w : World) (h : Bld w b l) (hl : l.length + 1 ≤ 140737488355328) (z : Int) (hz : z = c.toNat) :
    Calls Tryd.prog 24 #[.pointer (some ⟨b, 0, none⟩), .int .u8 z] w fun e w' => e = .returned .nilIface ∧ Bld w' b (l ++ [c]) ∧ Below b w w' ∧ Others b w w' := by
  subst hz
  have hlt := h.lt
  go_enter Tryd.func24, Tryd.ntmps24
  go_wp2_with fail
  refine (copyCheck_any b l _ h).mono ?_
  rintro e w1 ⟨rfl, ⟨p, v, h1, h2, h3⟩, hg1⟩
  have c1 := h1.cell 1
  simp at c1
  have hlt1 := h1.lt
  go_wp2_with (at_builtin; refine wpList_append_vec1 (n := 140737488355328) c elemByte encB_one _ _ rfl rfl rfl h3 (Below.refl (b + 1) w1) hlt1 rfl (Nat.le_refl _) (by omega) hl ?_)
  intro v' w2 ho hb hg
  have hk2 := h1.below hb (by omega)
  obtain ⟨vA, vc, hvf⟩ := ho.form
  obtain ⟨N, hN⟩ : ∃ N, Hid ((l ++ [c]).length = N) := ⟨_, rfl⟩
  rw [hN.out] at hvf
  subst hvf
  have f1 := hk2.frozen 1
  have c2 := hk2.cell 1
  simp at c2
  obtain ⟨k1, k2⟩ := blk_setCell hk2 1 (.slice vA N vc)
  go_wp2
  go_ret
  exact ⟨rfl, ⟨p, _, k1, h2, ho.grown k2 (by omega)⟩, below_row hlt hg1 hb k2, others_of rfl hg1 h3 hg k2⟩
set_option maxHeartbeats 1000000 in
set_option maxRecDepth 100000 in
theorem writeString_any (b : Nat) (l : List UInt8) (s : ByteArray) (w : World) (h : Bld w b l) (hl : l.length + s.size ≤ 140737488355328) :
    Calls Tryd.prog 13 #[.pointer (some ⟨b, 0, none⟩), .string s] w fun e w' => e = .returned (.tuple #[.int .i64 s.size, .nilIface]) ∧ Bld w' b (l ++ s.data.toList) ∧ Below b w w' ∧ Others b w w' := by
  have hlt := h.lt
  go_enter Tryd.func13, Tryd.ntmps13
  go_wp2_with fail
  refine (copyCheck_any b l _ h).mono ?_
  rintro e w1 ⟨rfl, ⟨p, v, h1, h2, h3⟩, hg1⟩
  have c1 := h1.cell 1
  simp at c1
  have hlt1 := h1.lt
  go_wp2_with (at_builtin; refine wpList_append_str (n := 140737488355328) s elemByte Tryd.underlying9 _ _ rfl rfl rfl rfl h3 (Below.refl (b + 1) w1) hlt1 (Nat.le_refl _) hl ?_)
  intro v' w2 ho hb hg
  have hk2 := h1.below hb (by omega)
  obtain ⟨vA, vc, hvf⟩ := ho.form
  obtain ⟨N, hN⟩ : ∃ N, Hid ((l ++ sbytes s).length = N) := ⟨_, rfl⟩
  rw [hN.out] at hvf
  subst hvf
  have f1 := hk2.frozen 1
  have c2 := hk2.cell 1
  simp at c2
  obtain ⟨k1, k2⟩ := blk_setCell hk2 1 (.slice vA N vc)
  go_wp2
  go_ret2
  exact ⟨rfl, ⟨p, _, k1, h2, ho.grown k2 (by omega)⟩, below_row hlt hg1 hb k2, others_of rfl hg1 h3 hg k2⟩
end Ln
end Go.Proofs.YtbcoecmeoemmeaaDoor
