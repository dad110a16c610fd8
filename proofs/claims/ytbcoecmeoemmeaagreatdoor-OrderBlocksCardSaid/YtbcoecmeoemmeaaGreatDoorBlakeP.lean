/- The program's tables; loads of whole arrays; copies into arrays. -/
import Derived.Test.YtbcoecmeoemmeaaGreatDoorBlakeD
namespace Go.Proofs.YtbcoecmeoemmeaaGreatDoor
open Go.ChangeShapes Go.WideShapes Go.ChangeAt Go.RowKit
set_option linter.unusedVariables false
def encU (n : Nat) : Value := .int .u32 n
theorem encU_one (n : Nat) : (encU n).oneCell' = true := rfl
/-- the tables' cells -/
structure Tabs (h : View) : Prop where
  first : ∀ i, i < 8 → h ⟨0, i, none⟩ = some (encU (at0 first8 i))
  order : ∀ i, i < 160 → h ⟨1, i, none⟩ = some (encN (at0 ordRows.flatten i))
  lanes : ∀ i, i < 32 → h ⟨2, i, none⟩ = some (encN (at0 ((List.range 8).map fun i => [(lane i).1, (lane i).2.1, (lane i).2.2.1, (lane i).2.2.2]).flatten i))
theorem Tabs.mono {h h' : View} (ht : Tabs h) (hle : VLe h h') : Tabs h' := ⟨fun i hi => hle _ _ (ht.first i hi), fun i hi => hle _ _ (ht.order i hi), fun i hi => hle _ _ (ht.lanes i hi)⟩
def ordAgg : Value := .agg (ordRows.flatten.map encN).toArray
def laneRow (i : Nat) : List Nat := [(lane i).1, (lane i).2.1, (lane i).2.2.1, (lane i).2.2.2]
def lanesAgg : Value := .agg ((((List.range 8).map laneRow).flatten).map encN).toArray
def ordRow (r : Nat) : List Nat := ordRows.getD r []
theorem index_ord (k : Nat) (hk : k < 10) (w : World) : (Instr.index 253 ordAgg (.int .i64 k)).run Tryz.prog w = .ok (.agg ((ordRow k).map encN).toArray) w :=
  match k, hk with
  | 0, _ => by kernel_rfl
  | 1, _ => by kernel_rfl
  | 2, _ => by kernel_rfl
  | 3, _ => by kernel_rfl
  | 4, _ => by kernel_rfl
  | 5, _ => by kernel_rfl
  | 6, _ => by kernel_rfl
  | 7, _ => by kernel_rfl
  | 8, _ => by kernel_rfl
  | 9, _ => by kernel_rfl
theorem index_lane (k : Nat) (hk : k < 8) (w : World) : (Instr.index 255 lanesAgg (.int .i64 k)).run Tryz.prog w = .ok (.agg ((laneRow k).map encN).toArray) w :=
  match k, hk with
  | 0, _ => by kernel_rfl
  | 1, _ => by kernel_rfl
  | 2, _ => by kernel_rfl
  | 3, _ => by kernel_rfl
  | 4, _ => by kernel_rfl
  | 5, _ => by kernel_rfl
  | 6, _ => by kernel_rfl
  | 7, _ => by kernel_rfl
/-- a load of a whole array, cell by cell -/
theorem wp_load_cells {P : Program} {o : Oper} {a : Act} {w : World} {K : Act → World → Prop} {Q : Exit → Act → World → Prop} {t : TypeId} {x : Operand} {ad : Addr} {n : Nat} {v : Value} (cs : List Value) (hv : v = .agg cs.toArray)
    (ho : o.op = .load t x) (hx : a.eval x = .pointer (some ad)) (hagg : (isAgg t).run P w = .ok true w) (hi : (P.info? t).map (·.size) = some n) (hl : cs.length = n) (hc : ∀ j v, cs[j]? = some v → w.cell? (ad.add j) = some v)
    (h : K (a.put o.dst v) w) : o.wp P a w K Q := by
  subst hv
  obtain ⟨i, hi', rfl⟩ := Option.map_eq_some_iff.1 hi
  have hrun : (loadVar t ad).run P w = .ok (.agg cs.toArray) w := by
    have := run_loadCells_list (P := P) w ad cs hc
    rw [hl] at this
    simp [loadVar, hagg, sizeOf, typeInfo, hi', this]
  have hld : (Instr.loadAt t (.pointer (some ad))).run P w = .ok (.agg cs.toArray) w := by
    simp [Instr.loadAt, Instr.sureAddr, hrun]
  unfold Oper.wp
  simp [execOp, ho, hx, hld, Result.andThen, Oper.upon]
  exact h
theorem wpList_load_cells {P : Program} {ops : Array Oper} {rest : List Oper} {o : Oper} {a : Act} {w : World} {Q : Exit → Act → World → Prop} {t : TypeId} {x : Operand} {ad : Addr} {n : Nat} {v : Value} (cs : List Value) (hv : v = .agg cs.toArray) (hgd : o.guard = none)
    (ho : o.op = .load t x) (hx : a.eval x = .pointer (some ad)) (hagg : (isAgg t).run P w = .ok true w) (hi : (P.info? t).map (·.size) = some n) (hl : cs.length = n) (hc : ∀ j v, cs[j]? = some v → w.cell? (ad.add j) = some v)
    (h : wpList P ops Q rest (a.put o.dst v) w) : wpList P ops Q (o :: rest) a w :=
  wpList_plain hgd fun _ hK => wp_load_cells cs hv ho hx hagg hi hl hc (hK _ _ h)
/-- a copy of as many cells as there is room for, into an array -/
theorem wp_copy_arr {P : Program} {o : Oper} {a : Act} {w : World} {K : Act → World → Prop} {Q : Exit → Act → World → Prop} (d s : Operand) (dT sT : TypeId) {elem te : TypeId} {enc : Nat → Value} {g off dc g2 o2 sc n : Nat} {xs ys : List Nat}
    (ho : o.op = .call { callee := .builtin .copy, args := #[d, s], argTypes := #[dT, sT] }) (hu : P.underlying dT = some (.slice elem)) (hsz : (P.info? elem).map (·.size) = some 1)
    (hd : a.eval d = .slice (some ⟨g, off, none⟩) n dc) (hs : a.eval s = .slice (some ⟨g2, o2, none⟩) n sc) (hb : Arr w g te enc xs) (hy : ys.length = n) (hfit : off + n ≤ xs.length)
    (hsrc : ∀ j (hj : j < ys.length), w.cell? ⟨g2, o2 + j, none⟩ = some (enc ys[j])) (h1 : ∀ x, (enc x).oneCell' = true)
    (h : ∀ w', Arr w' g te enc (xs.take off ++ (ys ++ xs.drop (off + n))) → w.grownBy w' (some g) → K (a.put o.dst (goInt n)) w') : o.wp P a w K Q := by
  subst hy
  have hrun := run_copy_row (P := P) w dT sT o.type elem g off ys.length dc ⟨g2, o2, none⟩ ys.length sc (xs.map enc).toArray te (ys.map enc) hu hsz hb (by simp) (fun j v hj => by
    have hjl : j < ys.length := by have := (List.getElem?_eq_some_iff.1 hj).1; simpa using this
    rw [add_off, hsrc j hjl]
    simpa [hjl] using hj) (by simpa using hfit) (fun v hv => by obtain ⟨x, _, rfl⟩ := List.mem_map.1 hv; exact h1 x)
  obtain ⟨h2, h3⟩ := blk_set hb ((xs.take off ++ (ys ++ xs.drop (off + ys.length))).map enc).toArray
  have e : ((xs.map enc).toArray.toList.take off ++ ys.map enc ++ (xs.map enc).toArray.toList.drop (off + (ys.map enc).length)).toArray = ((xs.take off ++ (ys ++ xs.drop (off + ys.length))).map enc).toArray := by
    simp [List.map_append]
  rw [e] at hrun
  have h := fun w' => h w'
  unfold Arr at h
  obtain ⟨Z, hZ⟩ : ∃ Z, ((xs.take off ++ (ys ++ xs.drop (off + ys.length))).map enc).toArray = Z := ⟨_, rfl⟩
  rw [hZ] at hrun h2 h3 h
  clear e hZ
  unfold Oper.wp
  simp [execOp, ho, resolve, invoke, builtin, hd, hs, hrun, Result.andThen, Oper.upon]
  exact h _ h2 h3
end Go.Proofs.YtbcoecmeoemmeaaGreatDoor
