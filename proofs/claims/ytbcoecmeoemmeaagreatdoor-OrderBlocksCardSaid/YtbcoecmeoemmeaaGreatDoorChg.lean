/- Worlds that differ in listed blocks alone; rows that are written in place; literal rows. -/
import Derived.Test.YtbcoecmeoemmeaaGreatDoorOwn
namespace Go.Proofs.YtbcoecmeoemmeaaGreatDoor
open Go.ChangeShapes Go.WideShapes Go.ChangeAt Go.RowKit
set_option linter.unusedVariables false
def View.from (h : View) (b : Nat) : View := fun a => if a.block < b then none else h a
theorem View.from_le (h : View) (b : Nat) : VLe (h.from b) h := fun a v e => by
  unfold View.from at e
  split at e
  · cases e
  · exact e
theorem vle_from {h h' : View} (b : Nat) (hle : VLe h h') : VLe (View.from h b) (View.from h' b) := fun a v e => by
  unfold View.from at e ⊢
  split at e
  · cases e
  · rename_i hne
    rw [if_neg hne]
    exact hle a v e
theorem from_but {h : View} {b g : Nat} (hg : g < b) : VLe (View.from h b) (View.but h (some g)) := fun a v e => by
  unfold View.from at e
  unfold View.but
  split at e
  · cases e
  · rename_i hne
    rw [if_neg (by intro h; injection h; omega)]
    exact e
def RFrom {α : Type} (b : Nat) (R : View → List Value → α → Prop) : View → List Value → α → Prop := fun h cs x => R (h.from b) cs x
theorem RFrom.mono {α : Type} {b : Nat} {R : View → List Value → α → Prop} (hR : Mono R) : Mono (RFrom b R) := fun h h' cs x hr hle => hR _ _ _ _ hr (vle_from b hle)
/-- w' has turned in the listed blocks alone, and in new ones -/
structure Chg (G : List Nat) (w w' : World) : Prop where
  os : w'.os = w.os
  tape : w'.tape = w.tape
  output : w'.output = w.output
  size : w.heap.size ≤ w'.heap.size
  block : ∀ k, k < w.heap.size → k ∉ G → w'.heap[k]? = w.heap[k]?
section
variable {G : List Nat} {a b c w w' : World}
theorem Chg.refl (G : List Nat) (w : World) : Chg G w w := ⟨rfl, rfl, rfl, Nat.le_refl _, fun _ _ _ => rfl⟩
theorem Chg.drew (h : Chg G a b) : Chg G a b.drew := ⟨h.os, h.tape, h.output, h.size, h.block⟩
theorem Chg.trans (h : Chg G a b) (k : Chg G b c) : Chg G a c :=
  ⟨k.os.trans h.os, k.tape.trans h.tape, k.output.trans h.output, Nat.le_trans h.size k.size, fun i hi hn => (k.block i (Nat.lt_of_lt_of_le hi h.size) hn).trans (h.block i hi hn)⟩
theorem Chg.sub {G' : List Nat} (h : Chg G a b) (hs : ∀ g ∈ G, g ∈ G' ∨ a.heap.size ≤ g) : Chg G' a b :=
  ⟨h.os, h.tape, h.output, h.size, fun i hi hn => h.block i hi (fun hm => (hs i hm).elim hn (fun hle => Nat.lt_irrefl _ (Nat.lt_of_lt_of_le hi hle)))⟩
theorem Chg.of_below {B : Nat} (h : Below B a b) (hB : a.heap.size ≤ B) : Chg G a b := ⟨h.os, h.tape, h.output, h.size, fun i hi _ => h.block i (Nat.lt_of_lt_of_le hi hB)⟩
theorem Chg.of_grown {r : Option Nat} (h : a.grownBy b r) (hr : ∀ g, r = some g → g ∈ G) : Chg G a b :=
  ⟨h.os, h.tape, h.output, h.size, fun i hi hn => h.block i hi (fun e => hn (hr i e.symm))⟩
theorem Chg.alloc (h : Chg G a b) (o : Obj) : Chg G a (b.alloc o) := h.trans (.of_below (below_one b o) (Nat.le_refl _))
theorem Chg.below {B : Nat} (h : Chg G a b) (hG : ∀ g ∈ G, B ≤ g) (hB : B ≤ a.heap.size) : Below B a b :=
  ⟨h.os, h.tape, h.output, h.size, fun k hk => h.block k (Nat.lt_of_lt_of_le hk hB) (fun hm => Nat.lt_irrefl _ (Nat.lt_of_lt_of_le hk (hG k hm)))⟩
theorem Chg.cell (h : Chg G a b) (k o : Nat) (hk : k < a.heap.size) (hn : k ∉ G) : b.cell? ⟨k, o, none⟩ = a.cell? ⟨k, o, none⟩ := World.cell?_of_block (h.block k hk hn)
theorem Chg.frozen (h : Chg G a b) (k o : Nat) (hk : k < a.heap.size) (hn : k ∉ G) : b.frozen? ⟨k, o, none⟩ = a.frozen? ⟨k, o, none⟩ := World.frozen?_of_block (h.block k hk hn)
theorem Blk.chg {g : Nat} {t : TypeId} {cs : Array Value} (h : Blk a g t cs) (hc : Chg G a b) (hg : g ∉ G) : Blk b g t cs := (hc.block g h.lt hg).trans h
theorem vle_chg {B : Nat} (hc : Chg G a b) (hG : ∀ g ∈ G, g < B) : VLe (View.from a.cell? B) (View.from b.cell? B) := by
  intro ad v e
  unfold View.from at e ⊢
  split at e
  · cases e
  · rename_i hB
    have hlt := World.block_lt_of_cell? a ad e
    rw [if_neg hB, World.cell?_of_block (hc.block ad.block hlt (fun hm => hB (hG _ hm)))]
    exact e
theorem OwnVec.chg {α : Type} {enc : α → Value} {e : TypeId} {B : Nat} {v : Value} {xs : List α} (h : OwnVec enc e a B v xs) (hc : Chg G a b) (hG : ∀ k, v.ownBlock = some k → k ∉ G) : OwnVec enc e b B v xs := by
  obtain ⟨h1, h2⟩ := h.own
  refine ⟨h1, ?_⟩
  rcases h2 with h2 | ⟨g, cap, cur, h3, h4, h5, h6⟩
  · exact .inl h2
  · refine .inr ⟨g, cap, cur, h3, h4, ?_, h6⟩
    have hlt : g < a.heap.size := (Array.getElem?_eq_some_iff.1 h5).1
    rw [hc.block g hlt (hG g (by rw [h3]; rfl))]
    exact h5
theorem OwnVec.chg' {α : Type} {enc : α → Value} {e : TypeId} {B : Nat} {v : Value} {xs : List α} (h : OwnVec enc e a B v xs) (hc : Chg G a b) (hG : ∀ g ∈ G, g < B) : OwnVec enc e b B v xs :=
  h.chg hc (fun k hk hm => by have := (h.own.lt k hk).1; have := hG k hm; omega)
end
theorem Blk.new' {w : World} {t : TypeId} {cs : Array Value} {g : Nat} (hg : g = w.heap.size) : Blk (w.alloc (.cells cs t)) g t cs := hg ▸ Blk.new w t cs
/-! ### rows written in place -/
/-- an array of words, in a block that is known whole -/
abbrev Arr {α : Type} (w : World) (g : Nat) (t : TypeId) (enc : α → Value) (xs : List α) : Prop := Blk w g t (xs.map enc).toArray
theorem Arr.at {α : Type} {w : World} {g : Nat} {t : TypeId} {enc : α → Value} {xs : List α} (h : Arr w g t enc xs) (i : Nat) (hi : i < xs.length) : w.cell? ⟨g, i, none⟩ = some (enc xs[i]) := by
  rw [h.cell]; simp [hi]
theorem arr_set {α : Type} {enc : α → Value} {xs : List α} {i : Nat} {x : α} (hi : i < xs.length) : ((xs.map enc).take i ++ ([enc x] ++ (xs.map enc).drop (i + 1))) = (xs.set i x).map enc := by
  rw [List.map_set, List.set_eq_take_append_cons_drop, if_pos (by simpa using hi)]; rfl
theorem wp_store_arr {α : Type} {enc : α → Value} {P : Program} {o : Oper} {a : Act} {w : World} {K : Act → World → Prop} {Q : Exit → Act → World → Prop} {t te : TypeId} {x y : Operand} {g i : Nat} {xs : List α} (u : α)
    (ho : o.op = .store t x y) (hx : a.eval x = .pointer (some ⟨g, i, none⟩)) (hy : a.eval y = enc u) (ht : (P.info? t).map (·.size) = some 1) (hn : (enc u).cells = #[enc u]) (h1 : (enc u).oneCell' = true) (hb : Arr w g te enc xs) (hi : i < xs.length)
    (h : ∀ w', Arr w' g te enc (xs.set i u) → w.grownBy w' (some g) → K (a.put o.dst undef) w') : o.wp P a w K Q := by
  refine wp_store_blk ho hx hy ht (by rw [hn]; rfl) hb (by simp; omega) (by rw [hn]; simpa using h1) (fun w' hb' hg => h w' ?_ hg)
  rw [hn, show (#[enc u] : Array Value).toList = [enc u] from rfl, List.toList_toArray, arr_set hi] at hb'
  exact hb'
theorem wp_store_vec {α : Type} {enc : α → Value} {P : Program} {o : Oper} {a : Act} {w : World} {K : Act → World → Prop} {Q : Exit → Act → World → Prop} {t e : TypeId} {x y : Operand} {g i n c B : Nat} {xs : List α} (u : α)
    (ho : o.op = .store t x y) (hx : a.eval x = .pointer (some ⟨g, i, none⟩)) (hy : a.eval y = enc u) (ht : (P.info? t).map (·.size) = some 1) (hn : (enc u).cells = #[enc u]) (h1 : (enc u).oneCell' = true) (hb : OwnVec enc e w B (.slice (some ⟨g, 0, none⟩) n c) xs) (hi : i < xs.length)
    (h : ∀ w', OwnVec enc e w' B (.slice (some ⟨g, 0, none⟩) n c) (xs.set i u) → w.grownBy w' (some g) → K (a.put o.dst undef) w') : o.wp P a w K Q := by
  obtain ⟨q1, q2⟩ := hb.own
  rcases q2 with ⟨e1, _⟩ | ⟨g', cap', cur, e1, h2, h3, h4, h5, h6, h7⟩
  · cases e1
  · injection e1 with e1 e2 e3
    injection e1 with e1
    injection e1 with e1 _ _
    subst e1 e2 e3
    have hlen : cur.size = c := by simpa using h6
    refine wp_store_blk ho hx hy ht (by rw [hn]; rfl) (show Blk w g e cur from h3) (by omega) (by rw [hn]; simpa using h1) (fun w' hb' hg => h w' ⟨?_⟩ hg)
    rw [hn, show (#[enc u] : Array Value).toList = [enc u] from rfl] at hb'
    rw [List.length_set]
    refine ⟨by simp, .inr ⟨g, c, _, rfl, h2, hb', h4, h5, ?_, ?_⟩⟩
    · simp; omega
    · rw [List.toList_toArray, List.singleton_append]
      have hs : cur.toList.take i ++ enc u :: cur.toList.drop (i + 1) = cur.toList.set i (enc u) := by
        rw [List.set_eq_take_append_cons_drop, if_pos (by simp; omega)]
      rw [hs, List.take_set, h7, List.map_set]
theorem OwnVec.at {α : Type} {enc : α → Value} {e : TypeId} {w : World} {B g n c : Nat} {xs : List α} (h : OwnVec enc e w B (.slice (some ⟨g, 0, none⟩) n c) xs) (i : Nat) (hi : i < xs.length) : w.cell? ⟨g, i, none⟩ = some (enc xs[i]) := by
  have := h.own.cells (g := g) rfl i (enc xs[i]) (by simp [hi])
  rw [add_off, Nat.zero_add] at this
  exact this
/-- a row just written out -/
theorem OwnVec.lit {α : Type} {enc : α → Value} {e : TypeId} {w : World} {B g n : Nat} {xs : List α} (hb : Blk w g e (xs.map enc).toArray) (hB : B ≤ g) (hn : n = xs.length) (hm : n ≤ 140737488355328) : OwnVec enc e w B (.slice (some ⟨g, 0, none⟩) n n) xs := by
  subst hn
  exact ⟨by simp, .inr ⟨g, xs.length, _, rfl, hB, hb, Nat.le_refl _, le_maxLen hm, by simp, by simp [List.take_of_length_le]⟩⟩
/-- 'append(out, ys...)': and where the row lies then -/
theorem wp_append_at {α : Type} {enc : α → Value} {P : Program} {wr : World} {o : Oper} {a : Act} {K : Act → World → Prop} {Q : Exit → Act → World → Prop} {t e : TypeId} {bytes base n : Nat} {v vy : Value} {xs ys : List α}
    (hE : Elem1 P t e bytes) (h1 : ∀ x : α, (enc x).oneCell' = true) (s y : Operand)
    (ho : o.op = .call { callee := .builtin .append, args := #[s, y], argTypes := #[t, t] })
    (hs : a.eval s = v) (hown : OwnVec enc e wr base v xs) (hbase : base ≤ wr.heap.size)
    (hx : a.eval y = vy) (hy : RVec enc bytes wr.cell? vy ys) (hc : n ≤ 140737488355328) (hn : (xs.length + ys.length) * bytes ≤ n) (hn' : xs.length + ys.length ≤ n)
    (h : ∀ v' w', OwnVec enc e w' base v' (xs ++ ys) → wr.grownBy w' v.ownBlock → (0 < ys.length → ∀ k, v'.ownBlock = some k → v.ownBlock = some k ∨ wr.heap.size ≤ k) → K (a.put o.dst v') w') : o.wp P a wr K Q := by
  obtain ⟨ht, i, z, hi, hz0, hz1, hz2, hzs⟩ := hE
  obtain ⟨A, c, rfl, _⟩ := id hy
  obtain ⟨_, _, _, hl, hA, hcell⟩ := hy.src
  have hone : ∀ u ∈ ys.map enc, u.oneCell' = true := fun u hu => by obtain ⟨x, _, rfl⟩ := List.mem_map.1 hu; exact h1 x
  obtain ⟨v', w', hr, h2, h3⟩ := run_append_any (P := P) wr base t o.type e i z 1 bytes ht hi hz0 hz1 hz2 hzs (by decide) v xs.length _ hown.own A ys.length c (ys.map enc) hl hA hcell hone (le_maxLen (Nat.le_trans hn' hc)) (Nat.le_trans hn hc) hbase
  have hloc : 0 < ys.length → ∀ k, v'.ownBlock = some k → v.ownBlock = some k ∨ wr.heap.size ≤ k := fun hp k hk => by
    cases A with
    | none => have := (hA rfl).1; omega
    | some ad =>
      rcases append_loc (P := P) wr base t o.type e i z 1 bytes ht hi hz0 hz1 hz2 v xs.length _ hown.own ad ys.length c (ys.map enc) hl (hcell ad rfl) hone hp (Nat.le_trans hn' hc) (Nat.le_trans hn hc) hr with q | q
      · exact .inl (by rw [← q]; exact hk)
      · rw [q] at hk; injection hk with hk; exact .inr (by omega)
  unfold Oper.wp execOp
  simp [ho, resolve, invoke, builtin, hs, hx, hr, Result.andThen, Oper.upon]
  exact h v' w' ⟨by simpa using h2⟩ h3 hloc
theorem wpList_append_at {α : Type} {enc : α → Value} {P : Program} {wr : World} {ops : Array Oper} {rest : List Oper} {o : Oper} {a : Act} {Q : Exit → Act → World → Prop} {t e : TypeId} {bytes base n : Nat} {v vy : Value} {xs ys : List α}
    (hE : Elem1 P t e bytes) (h1 : ∀ x : α, (enc x).oneCell' = true) (s y : Operand) (hgd : o.guard = none)
    (ho : o.op = .call { callee := .builtin .append, args := #[s, y], argTypes := #[t, t] })
    (hs : a.eval s = v) (hown : OwnVec enc e wr base v xs) (hbase : base ≤ wr.heap.size)
    (hx : a.eval y = vy) (hy : RVec enc bytes wr.cell? vy ys) (hc : n ≤ 140737488355328) (hn : (xs.length + ys.length) * bytes ≤ n) (hn' : xs.length + ys.length ≤ n)
    (h : ∀ v' w', OwnVec enc e w' base v' (xs ++ ys) → wr.grownBy w' v.ownBlock → (0 < ys.length → ∀ k, v'.ownBlock = some k → v.ownBlock = some k ∨ wr.heap.size ≤ k) → wpList P ops Q rest (a.put o.dst v') w') : wpList P ops Q (o :: rest) a wr :=
  wpList_plain hgd fun _ hK => wp_append_at hE h1 s y ho hs hown hbase hx hy hc hn hn' fun v' w' h2 h3 h4 => hK _ _ (h v' w' h2 h3 h4)
/-- a store ahead of a list of operations -/
theorem wpList_store_arr {α : Type} {enc : α → Value} {P : Program} {ops : Array Oper} {rest : List Oper} {o : Oper} {a : Act} {w : World} {Q : Exit → Act → World → Prop} {t te : TypeId} {x y : Operand} {g i : Nat} {xs : List α} (u : α) (hgd : o.guard = none)
    (ho : o.op = .store t x y) (hx : a.eval x = .pointer (some ⟨g, i, none⟩)) (hy : a.eval y = enc u) (ht : (P.info? t).map (·.size) = some 1) (hn : (enc u).cells = #[enc u]) (h1 : (enc u).oneCell' = true) (hb : Arr w g te enc xs) (hi : i < xs.length)
    (h : ∀ w', Arr w' g te enc (xs.set i u) → w.grownBy w' (some g) → wpList P ops Q rest (a.put o.dst undef) w') : wpList P ops Q (o :: rest) a w :=
  wpList_plain hgd fun _ hK => wp_store_arr u ho hx hy ht hn h1 hb hi fun w' h2 h3 => hK _ _ (h w' h2 h3)
theorem wpList_store_whole {P : Program} {ops : Array Oper} {rest : List Oper} {o : Oper} {a : Act} {w : World} {Q : Exit → Act → World → Prop} {t te : TypeId} {x y : Operand} {g n : Nat} {cs new : Array Value} (hgd : o.guard = none)
    (ho : o.op = .store t x y) (hx : a.eval x = .pointer (some ⟨g, 0, none⟩)) (hy : a.eval y = .agg new) (hi : (P.info? t).map (·.size) = some n) (hn : new.size = n) (hb : Blk w g te cs) (hcs : cs.size = n) (h1 : (new.toList.all fun u => u.oneCell') = true)
    (h : ∀ w', Blk w' g te new → w.grownBy w' (some g) → wpList P ops Q rest (a.put o.dst undef) w') : wpList P ops Q (o :: rest) a w :=
  wpList_plain hgd fun _ hK => wp_store_whole ho hx hy hi hn hb hcs h1 fun w' h2 h3 => hK _ _ (h w' h2 h3)
end Go.Proofs.YtbcoecmeoemmeaaGreatDoor
