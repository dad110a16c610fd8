/- Base words for the walks: what memory reads as, and how that is kept. -/
import Derived.Test.YtnjcboigphdjmaaRows
import Derived.WalkKit
import Derived.ProofKit
import Derived.OpenShut
import Derived.IntWalk
import Derived.BigQuiet
import Derived.Deep.QuietTactic
import Derived.Outline
import Derived.Lib.QuietBelow
import Derived.Lib.Hide
import Derived.Deep.RegionHeld3
import Derived.Laws.OwnMore
import Derived.SizedLaws
import Derived.Deep.Slices
namespace Go.Proofs.Ytnjcboigphdjmaa
open Go.ChangeShapes Go.WideShapes Go.ChangeAt Go.RowKit
set_option linter.unusedVariables false

theorem ret_bool {a b : Bool} (h : a = b) : Ending.returned (.bool a) = .returned (.bool b) := by rw [h]
theorem ret_int {k : IntKind} {a b : Int} (h : a = b) : Ending.returned (.int k a) = .returned (.int k b) := by rw [h]
theorem bcell {W w1 : World} (hb : Below W.heap.size W w1) : (∀ b o, b < W.heap.size → w1.cell? ⟨b, o, none⟩ = W.cell? ⟨b, o, none⟩) ∧ (∀ b o, b < W.heap.size → w1.frozen? ⟨b, o, none⟩ = W.frozen? ⟨b, o, none⟩) :=
  ⟨fun b o h => hb.cell (p := ⟨b, o, none⟩) h, fun b o h => hb.frozen (p := ⟨b, o, none⟩) h⟩

theorem add_off {b o n : Nat} : (⟨b, o, none⟩ : Addr).add n = ⟨b, o + n, none⟩ := by
  unfold Addr.add; split <;> simp_all
/-- a cell that is there, behind a new block -/
theorem cell_alloc {w : World} {a : Addr} {v : Value} (h : w.cell? a = some v) (o : Obj) : (w.alloc o).cell? a = some v := by
  rw [World.cell?_alloc_lt _ _ _ (World.block_lt_of_cell? w a h)]; exact h
theorem below_drew (w : World) : Below w.heap.size w w.drew := (Below.refl _ _).drew
theorem below_one (w : World) (o : Obj) : Below w.heap.size w (w.alloc o) := (Below.refl _ _).alloc (Nat.le_refl _) _
/-! ### views -/
abbrev View := Addr → Option Value
def VLe (h h' : View) : Prop := ∀ a v, h a = some v → h' a = some v
theorem VLe.refl (h : View) : VLe h h := fun _ _ e => e
theorem VLe.trans {a b c : View} (h : VLe a b) (k : VLe b c) : VLe a c := fun x v e => k x v (h x v e)
/-- all but one block -/
def View.but (h : View) (g : Option Nat) : View := fun a => if some a.block = g then none else h a
theorem View.but_le (h : View) (g : Option Nat) : VLe (h.but g) h := fun a v e => by
  unfold View.but at e
  split at e
  · cases e
  · exact e
theorem vle_below {w w' : World} (h : Below w.heap.size w w') : VLe w.cell? w'.cell? := fun a v e => by
  rw [h.cell (World.block_lt_of_cell? w a e)]; exact e
theorem vle_but {w w' : World} {g : Option Nat} (hg : w.grownBy w' g) : VLe (View.but w.cell? g) (View.but w'.cell? g) := fun a v e => by
  unfold View.but at e ⊢
  split at e
  · cases e
  · rename_i hne
    rw [if_neg hne]
    exact hg.cell e hne

/-- a slice of values that are one cell each -/
def RVec {α : Type} (enc : α → Value) (bs : Nat) (h : View) (v : Value) (xs : List α) : Prop :=
  ∃ A c, v = .slice A xs.length c ∧ xs.length ≤ c ∧ c ≤ maxLen ∧ xs.length * bs ≤ 140737488355328 ∧ (A = none → c = 0) ∧ (0 < xs.length → ∃ b o, A = some ⟨b, o, none⟩ ∧ ∀ i (hi : i < xs.length), h ⟨b, o + i, none⟩ = some (enc xs[i]))
/-- a slice of values that are sz cells each -/
def RSl {α : Type} (sz : Nat) (R : View → List Value → α → Prop) (bs : Nat) (h : View) (v : Value) (xs : List α) : Prop :=
  ∃ A c, v = .slice A xs.length c ∧ xs.length ≤ c ∧ c ≤ maxLen ∧ xs.length * bs ≤ 140737488355328 ∧ (A = none → c = 0) ∧ (0 < xs.length → ∃ b o, A = some ⟨b, o, none⟩ ∧ ∀ i (hi : i < xs.length), ∃ cs, cs.length = sz ∧ (∀ j, j < sz → h ⟨b, o + i * sz + j, none⟩ = cs[j]?) ∧ R h cs xs[i])
theorem RVec.mono {α : Type} {enc : α → Value} {bs : Nat} {h h' : View} {v : Value} {xs : List α} (hr : RVec enc bs h v xs) (hle : VLe h h') : RVec enc bs h' v xs := by
  obtain ⟨A, c, e, h1, h2, h2', hn, h3⟩ := hr
  refine ⟨A, c, e, h1, h2, h2', hn, fun hp => ?_⟩
  obtain ⟨b, o, ea, hc⟩ := h3 hp
  exact ⟨b, o, ea, fun i hi => hle _ _ (hc i hi)⟩
theorem RSl.mono {α : Type} {sz : Nat} {R : View → List Value → α → Prop} (hR : ∀ h h' cs x, R h cs x → VLe h h' → R h' cs x) {bs : Nat} {h h' : View} {v : Value} {xs : List α} (hr : RSl sz R bs h v xs) (hle : VLe h h') : RSl sz R bs h' v xs := by
  obtain ⟨A, c, e, h1, h2, h2', hn, h3⟩ := hr
  refine ⟨A, c, e, h1, h2, h2', hn, fun hp => ?_⟩
  obtain ⟨b, o, ea, hc⟩ := h3 hp
  refine ⟨b, o, ea, fun i hi => ?_⟩
  obtain ⟨cs, hl, hcell, hx⟩ := hc i hi
  refine ⟨cs, hl, fun j hj => ?_, hR _ _ _ _ hx hle⟩
  have h0 := hcell j hj
  rw [List.getElem?_eq_getElem (by omega)] at h0 ⊢
  exact hle _ _ h0
/-- bytes -/
def encB (b : UInt8) : Value := .int .u8 b.toNat
abbrev RBytes := RVec encB 1
abbrev RInts := RVec (fun n : Int => Value.int .i64 n) 8
abbrev RStrs := RVec (fun s : ByteArray => Value.string s) 16


/-! ### append onto a row of the call's own -/
theorem le_alloc {w : World} {n : Nat} (o : Obj) (h : n ≤ w.heap.size) : n ≤ (w.alloc o).heap.size := Nat.le_trans h (by simp)
theorem reach_le {n : Nat} (h : n ≤ reachBytes) : n ≤ 140737488355328 := Nat.le_trans h (by decide)
theorem le_maxLen {n : Nat} (h : n ≤ 140737488355328) : n ≤ maxLen := Nat.le_trans h (by decide)

theorem run_append_any {P : Program} (w : World) (base : Nat) (t ty e : TypeId) (i : TypeInfo) (z : Value) (size bytes : Nat) (ht : P.underlying t = some (.slice e)) (hi : P.info? e = some i) (hz : i.zero = some z)
    (hsize : i.size = size) (hby : i.bytes = bytes) (hzs : z.cells.size = size) (hsz : 0 < size)
    (v : Value) (n : Nat) (xs : List Value) (hown : w.ownsRow base e size v n xs)
    (A : Option Addr) (m c : Nat) (news : List Value) (hl : news.length = m * size) (hA : A = none → m = 0 ∧ c = 0) (hnews : ∀ ad, A = some ad → ∀ j u, news[j]? = some u → w.cell? (ad.add j) = some u) (h1 : ∀ u ∈ news, u.oneCell' = true)
    (h63 : n + m ≤ maxLen) (hbytes : (n + m) * bytes ≤ 140737488355328) (hbase : base ≤ w.heap.size) :
    ∃ v' w', (Builtin.append_ #[t, t] ty #[v, .slice A m c]).run P w = .ok v' w' ∧ w'.ownsRow base e size v' (n + m) (xs ++ news) ∧ w.grownBy w' v.ownBlock := by
  cases A with
  | none =>
    obtain ⟨rfl, rfl⟩ := hA rfl
    have hn : news = [] := List.eq_nil_of_length_eq_zero (by simpa using hl)
    subst hn
    refine ⟨v, w, run_append_owned_none (P := P) w base t ty e i size ht hi v n xs hown, by simpa using hown, ⟨rfl, rfl, rfl, Nat.le_refl _, fun _ _ _ => rfl⟩⟩
  | some ad =>
    obtain ⟨v', w', h2, h3, h4, _⟩ := run_append_own (P := P) w base t ty e i z size bytes ht hi hz hsize hby hzs hsz v n xs hown ad m c news hl (hnews ad rfl) h1 h63 hbytes hbase
    exact ⟨v', w', h2, h3, h4⟩
theorem wp_append_any {P : Program} {w : World} {o : Oper} {a : Act} {K : Act → World → Prop} {Q : Exit → Act → World → Prop} (s x : Operand) (t : TypeId)
    (ho : o.op = .call { callee := .builtin .append, args := #[s, x], argTypes := #[t, t] })
    (base : Nat) (e : TypeId) (i : TypeInfo) (z : Value) (size bytes : Nat) (ht : P.underlying t = some (.slice e)) (hi : P.info? e = some i) (hz : i.zero = some z)
    (hsize : i.size = size) (hby : i.bytes = bytes) (hzs : z.cells.size = size) (hsz : 0 < size)
    (v : Value) (n : Nat) (xs : List Value) (hs : a.eval s = v) (hown : w.ownsRow base e size v n xs)
    (A : Option Addr) (m c : Nat) (news : List Value) (hx : a.eval x = .slice A m c) (hl : news.length = m * size) (hA : A = none → m = 0 ∧ c = 0) (hnews : ∀ ad, A = some ad → ∀ j u, news[j]? = some u → w.cell? (ad.add j) = some u) (h1 : ∀ u ∈ news, u.oneCell' = true)
    (h63 : n + m ≤ maxLen) (hbytes : (n + m) * bytes ≤ 140737488355328) (hbase : base ≤ w.heap.size)
    (h : ∀ v' w', w'.ownsRow base e size v' (n + m) (xs ++ news) → w.grownBy w' v.ownBlock → K (a.put o.dst v') w') : o.wp P a w K Q := by
  obtain ⟨v', w', hr, h2, h3⟩ := run_append_any (P := P) w base t o.type e i z size bytes ht hi hz hsize hby hzs hsz v n xs hown A m c news hl hA hnews h1 h63 hbytes hbase
  unfold Oper.wp execOp
  simp [ho, resolve, invoke, builtin, hs, hx, hr, Result.andThen, Oper.upon]
  exact h _ _ h2 h3
theorem wpList_append_any {P : Program} {w : World} {ops : Array Oper} {rest : List Oper} {o : Oper} {a : Act} {Q : Exit → Act → World → Prop} (hgd : o.guard = none) (s x : Operand) (t : TypeId)
    (ho : o.op = .call { callee := .builtin .append, args := #[s, x], argTypes := #[t, t] })
    (base : Nat) (e : TypeId) (i : TypeInfo) (z : Value) (size bytes : Nat) (ht : P.underlying t = some (.slice e)) (hi : P.info? e = some i) (hz : i.zero = some z)
    (hsize : i.size = size) (hby : i.bytes = bytes) (hzs : z.cells.size = size) (hsz : 0 < size)
    (v : Value) (n : Nat) (xs : List Value) (hs : a.eval s = v) (hown : w.ownsRow base e size v n xs)
    (A : Option Addr) (m c : Nat) (news : List Value) (hx : a.eval x = .slice A m c) (hl : news.length = m * size) (hA : A = none → m = 0 ∧ c = 0) (hnews : ∀ ad, A = some ad → ∀ j u, news[j]? = some u → w.cell? (ad.add j) = some u) (h1 : ∀ u ∈ news, u.oneCell' = true)
    (h63 : n + m ≤ maxLen) (hbytes : (n + m) * bytes ≤ 140737488355328) (hbase : base ≤ w.heap.size)
    (h : ∀ v' w', w'.ownsRow base e size v' (n + m) (xs ++ news) → w.grownBy w' v.ownBlock → wpList P ops Q rest (a.put o.dst v') w') : wpList P ops Q (o :: rest) a w :=
  wpList_plain hgd fun _ hK => wp_append_any s x t ho base e i z size bytes ht hi hz hsize hby hzs hsz v n xs hs hown A m c news hx hl hA hnews h1 h63 hbytes hbase fun v' w' h2 h3 => hK _ _ (h v' w' h2 h3)

/-- append of one element, that lies in a block just made; all that a loop's relation asks -/
theorem wpList_append_one {P : Program} {wr : World} {ops : Array Oper} {rest : List Oper} {o : Oper} {a : Act} {Q : Exit → Act → World → Prop} (hgd : o.guard = none) (s x : Operand) (t : TypeId)
    (ho : o.op = .call { callee := .builtin .append, args := #[s, x], argTypes := #[t, t] })
    (base : Nat) (e : TypeId) (i : TypeInfo) (z : Value) (size bytes : Nat) (ht : P.underlying t = some (.slice e)) (hi : P.info? e = some i) (hz : i.zero = some z)
    (hsize : i.size = size) (hby : i.bytes = bytes) (hzs : z.cells.size = size) (hsz : 0 < size)
    {v : Value} {n : Nat} {xs : List Value} {W : World} (hs : a.eval s = v) (hown : wr.ownsRow base e size v n xs) (hbl : Below base W wr) (hbase : base ≤ wr.heap.size)
    (cs : List Value) (hx : a.eval x = .slice (some ⟨wr.heap.size, 0, none⟩) 1 1) (hl : cs.length = size) (h1 : ∀ u ∈ cs, u.oneCell' = true)
    (hbytes : (n + 1) * bytes ≤ 140737488355328) (h63 : n + 1 ≤ 140737488355328)
    (h : ∀ v' w', w'.ownsRow base e size v' (n + 1) (xs ++ cs) → Below base W w' → wr.grownBy w' v.ownBlock → wpList P ops Q rest (a.put o.dst v') w') : wpList P ops Q (o :: rest) a (wr.alloc (.cells cs.toArray e)) := by
  refine wpList_append_any hgd s x t ho base e i z size bytes ht hi hz hsize hby hzs hsz v n xs hs (hown.alloc _) (some ⟨wr.heap.size, 0, none⟩) 1 1 cs hx (by rw [hl, Nat.one_mul]) (fun h => by cases h) (fun ad had j u hu => ?_) h1 (le_maxLen h63) hbytes (le_alloc _ hbase) (fun v' w' ho hg => ?_)
  · injection had with had
    subst had
    rw [add_off, Nat.zero_add, cell_of_row _ _ j cs.toArray e (0, 0) (heap_alloc_new wr _)]
    simpa using hu
  · refine h v' w' ho ((hbl.alloc hbase _).grown hg (le_alloc _ hbase) (fun g hg => (hown.lt g hg).1)) ?_
    have g1 := World.grownBy_alloc wr (.cells cs.toArray e) v.ownBlock
    exact ⟨hg.os.trans g1.os, hg.tape.trans g1.tape, hg.output.trans g1.output, Nat.le_trans g1.size hg.size, fun k hk hne => (hg.block k (Nat.lt_of_lt_of_le hk g1.size) hne).trans (g1.block k hk hne)⟩

/-- a row of the call's own that reads as a list -/
structure OwnVec {α : Type} (enc : α → Value) (e : TypeId) (w : World) (base : Nat) (v : Value) (xs : List α) : Prop where
  own : w.ownsRow base e 1 v xs.length (xs.map enc)
theorem OwnVec.nil {α : Type} (enc : α → Value) (e : TypeId) (w : World) (base : Nat) : OwnVec enc e w base (.slice none 0 0) [] := ⟨World.ownsRow_nil _ _ _ _⟩
theorem OwnVec.kept {α : Type} {enc : α → Value} {e : TypeId} {w w' : World} {base : Nat} {v : Value} {xs : List α} (h : OwnVec enc e w base v xs) (hb : Below w.heap.size w w') : OwnVec enc e w' base v xs :=
  ⟨h.own.kept (row := none) ⟨hb.os, hb.tape, hb.output, hb.size, fun k hk _ => hb.block k hk⟩ (by cases v.ownBlock <;> simp)⟩
/-- owned, and readable -/
theorem OwnVec.reads {α : Type} {enc : α → Value} {bs base : Nat} {e : TypeId} {w : World} {v : Value} {xs : List α} (h : OwnVec enc e w base v xs) (hb : xs.length * bs ≤ 140737488355328) : RVec enc bs w.cell? v xs := by
  obtain ⟨h⟩ := h
  rcases id h.2 with ⟨rfl, h0⟩ | ⟨g, cap, cur, rfl, h2, h3, h4, h5, h6, h7⟩
  · have : xs = [] := List.eq_nil_of_length_eq_zero h0
    subst this
    exact ⟨none, 0, rfl, Nat.le_refl _, Nat.zero_le _, by simp, fun _ => rfl, fun h => by simp at h⟩
  · refine ⟨_, cap, rfl, h4, h5, hb, (fun h => by cases h), fun hp => ⟨g, 0, rfl, fun i hi => ?_⟩⟩
    have := h.cells (g := g) rfl i (enc xs[i]) (by simp [hi])
    rw [add_off] at this
    exact this
/-- the source of an append -/
theorem RVec.src {α : Type} {enc : α → Value} {bs : Nat} {w : World} {A : Option Addr} {n c : Nat} {xs : List α} (h : RVec enc bs w.cell? (.slice A n c) xs) :
    n = xs.length ∧ n ≤ maxLen ∧ n * bs ≤ 140737488355328 ∧ (xs.map enc).length = n * 1 ∧ (A = none → n = 0 ∧ c = 0) ∧ ∀ ad, A = some ad → ∀ j u, (xs.map enc)[j]? = some u → w.cell? (ad.add j) = some u := by
  obtain ⟨A', c', e, h1, h2, h3, h4, h5⟩ := h
  injection e with e1 e2 e3
  subst e1 e2 e3
  refine ⟨rfl, by omega, h3, by simp, fun hA => ⟨?_, h4 hA⟩, fun ad hA j u hu => ?_⟩
  · rcases Nat.eq_zero_or_pos xs.length with h | h
    · exact h
    · obtain ⟨b, o, ea, _⟩ := h5 h; rw [hA] at ea; cases ea
  · have hj : j < xs.length := by
      have := (List.getElem?_eq_some_iff.1 hu).1
      simpa using this
    obtain ⟨b, o, ea, hc⟩ := h5 (by omega)
    rw [hA] at ea
    injection ea with ea
    subst ea
    rw [add_off, hc j hj]
    simpa [hj] using hu
/-- what the type table says of an element of one cell -/
def Elem1 (P : Program) (t e : TypeId) (bytes : Nat) : Prop := P.underlying t = some (.slice e) ∧ ∃ i z, P.info? e = some i ∧ i.zero = some z ∧ i.size = 1 ∧ i.bytes = bytes ∧ z.cells.size = 1
theorem elem1 {P : Program} {t e : TypeId} {bytes : Nat} {z : Value} (ht : P.underlying t = some (.slice e)) (h : (P.info? e).map (fun i => (i.zero, i.size, i.bytes)) = some (some z, 1, bytes)) (hz : z.cells.size = 1) : Elem1 P t e bytes := by
  obtain ⟨i0, hi, hz0, hz1, hz2⟩ := info_parts h
  exact ⟨ht, i0, z, hi, hz0, hz1, hz2, hz⟩
/-- 'append(out, x)' -/
theorem wpList_append_vec1 {α : Type} {enc : α → Value} {P : Program} {wr : World} {ops : Array Oper} {rest : List Oper} {o : Oper} {a : Act} {Q : Exit → Act → World → Prop} {t e : TypeId} {bytes base n : Nat} {v : Value} {xs : List α} {W : World} (x : α)
    (hE : Elem1 P t e bytes) (h1 : ∀ x : α, (enc x).oneCell' = true) (s y : Operand) (hgd : o.guard = none)
    (ho : o.op = .call { callee := .builtin .append, args := #[s, y], argTypes := #[t, t] })
    (hs : a.eval s = v) (hown : OwnVec enc e wr base v xs) (hbl : Below base W wr) (hbase : base ≤ wr.heap.size)
    (hx : a.eval y = .slice (some ⟨wr.heap.size, 0, none⟩) 1 1) (hc : n ≤ 140737488355328) (hn : (xs.length + 1) * bytes ≤ n) (hn' : xs.length + 1 ≤ n)
    (h : ∀ v' w', OwnVec enc e w' base v' (xs ++ [x]) → Below base W w' → wr.grownBy w' v.ownBlock → wpList P ops Q rest (a.put o.dst v') w') : wpList P ops Q (o :: rest) a (wr.alloc (.cells #[enc x] e)) := by
  obtain ⟨ht, i, z, hi, hz0, hz1, hz2, hzs⟩ := hE
  refine wpList_append_one hgd s y t ho base e i z 1 bytes ht hi hz0 hz1 hz2 hzs (by decide) hs hown.own hbl hbase [enc x] hx rfl (fun u hu => by rw [List.mem_singleton.1 hu]; exact h1 x) (Nat.le_trans hn hc) (Nat.le_trans hn' hc) (fun v' w' ho hb hg => h v' w' ⟨?_⟩ hb hg)
  simpa using ho
/-- 'append(out, ys...)' -/
theorem wpList_append_vec {α : Type} {enc : α → Value} {P : Program} {wr : World} {ops : Array Oper} {rest : List Oper} {o : Oper} {a : Act} {Q : Exit → Act → World → Prop} {t e : TypeId} {bytes base n : Nat} {v vy : Value} {xs ys : List α} {W : World}
    (hE : Elem1 P t e bytes) (h1 : ∀ x : α, (enc x).oneCell' = true) (s y : Operand) (hgd : o.guard = none)
    (ho : o.op = .call { callee := .builtin .append, args := #[s, y], argTypes := #[t, t] })
    (hs : a.eval s = v) (hown : OwnVec enc e wr base v xs) (hbl : Below base W wr) (hbase : base ≤ wr.heap.size)
    (hx : a.eval y = vy) (hy : RVec enc bytes wr.cell? vy ys) (hc : n ≤ 140737488355328) (hn : (xs.length + ys.length) * bytes ≤ n) (hn' : xs.length + ys.length ≤ n)
    (h : ∀ v' w', OwnVec enc e w' base v' (xs ++ ys) → Below base W w' → wr.grownBy w' v.ownBlock → wpList P ops Q rest (a.put o.dst v') w') : wpList P ops Q (o :: rest) a wr := by
  obtain ⟨ht, i, z, hi, hz0, hz1, hz2, hzs⟩ := hE
  obtain ⟨A, c, rfl, _⟩ := id hy
  obtain ⟨_, _, _, hl, hA, hcell⟩ := hy.src
  refine wpList_append_any hgd s y t ho base e i z 1 bytes ht hi hz0 hz1 hz2 hzs (by decide) v xs.length _ hs hown.own A ys.length c (ys.map enc) hx hl hA hcell (fun u hu => by obtain ⟨x, _, rfl⟩ := List.mem_map.1 hu; exact h1 x) (le_maxLen (Nat.le_trans hn' hc)) (Nat.le_trans hn hc) hbase (fun v' w' ho hg => h v' w' ⟨?_⟩ (hbl.grown hg hbase (fun g hg => (hown.own.lt g hg).1)) hg)
  simpa using ho

theorem RVec.nil {α : Type} (enc : α → Value) (bs : Nat) (h : View) : RVec enc bs h (.slice none 0 0) [] := ⟨none, 0, rfl, Nat.le_refl _, Nat.zero_le _, by simp, fun _ => rfl, fun h => by simp at h⟩
theorem OwnVec.form {α : Type} {enc : α → Value} {e : TypeId} {w : World} {b : Nat} {v : Value} {xs : List α} (h : OwnVec enc e w b v xs) : ∃ A c, v = .slice A xs.length c := by
  obtain ⟨h1, h2⟩ := h.own
  rcases h2 with ⟨rfl, h2⟩ | ⟨g, cap, cur, rfl, _⟩
  · exact ⟨none, 0, by rw [h2]⟩
  · exact ⟨_, _, rfl⟩
/-- what is owned from a later block on is owned from an earlier one on -/
theorem OwnVec.base {α : Type} {enc : α → Value} {e : TypeId} {w : World} {b b' : Nat} {v : Value} {xs : List α} (h : OwnVec enc e w b v xs) (hb : b' ≤ b) : OwnVec enc e w b' v xs := by
  obtain ⟨h1, h2⟩ := h.own
  refine ⟨h1, ?_⟩
  rcases h2 with h2 | ⟨g, cap, cur, h3, h4, h5⟩
  · exact .inl h2
  · exact .inr ⟨g, cap, cur, h3, Nat.le_trans hb h4, h5⟩
theorem OwnVec.grown {α : Type} {enc : α → Value} {e : TypeId} {w w' : World} {b g : Nat} {v : Value} {xs : List α} (h : OwnVec enc e w b v xs) (hg : w.grownBy w' (some g)) (hne : g < b) : OwnVec enc e w' b v xs :=
  ⟨h.own.kept hg (.inr fun e => by have := (h.own.lt g e).1; omega)⟩

theorem OwnVec.drew {α : Type} {enc : α → Value} {e : TypeId} {w : World} {b : Nat} {v : Value} {xs : List α} (h : OwnVec enc e w b v xs) : OwnVec enc e w.drew b v xs := h.kept (below_drew w)
theorem OwnVec.alloc {α : Type} {enc : α → Value} {e : TypeId} {w : World} {b : Nat} {v : Value} {xs : List α} (h : OwnVec enc e w b v xs) (o : Obj) : OwnVec enc e (w.alloc o) b v xs := h.kept ((Below.refl _ _).alloc (Nat.le_refl _) _)
theorem OwnVec.setCell {α : Type} {enc : α → Value} {e : TypeId} {w : World} {b : Nat} {v : Value} {xs : List α} (h : OwnVec enc e w b v xs) {p : Addr} (hp : p.block < b) (u : Value) : OwnVec enc e (w.setCell p u) b v xs :=
  ⟨ownsRow_setCell_below h.own hp u⟩

/-! ### 'is there one?' -/
theorem any_range_false {p : Nat → Bool} {n : Nat} (h : ∀ j, j < n → p j = false) : (List.range n).any p = false := by
  rw [List.any_eq_false]
  intro x hx
  simp [h x (List.mem_range.1 hx)]
theorem any_range_true {p : Nat → Bool} {n k : Nat} (hk : k < n) (h : p k = true) : (List.range n).any p = true := by
  rw [List.any_eq_true]
  exact ⟨k, List.mem_range.2 hk, h⟩
theorem upto_succ {p : Nat → Bool} {k : Nat} (h : ∀ j, j < k → p j = false) (hk : p k = false) : ∀ j, j < k + 1 → p j = false := fun j hj => by
  rcases Nat.lt_or_ge j k with h1 | h1
  · exact h j h1
  · have : j = k := by omega
    subst this; exact hk
theorem any_get {α : Type} (l : List α) (p : α → Bool) : l.any p = (List.range l.length).any (fun i => (l[i]?.map p).getD false) := by
  rw [Bool.eq_iff_iff, List.any_eq_true, List.any_eq_true]
  constructor
  · rintro ⟨x, hx, hp⟩
    obtain ⟨i, hi, rfl⟩ := List.getElem_of_mem hx
    exact ⟨i, List.mem_range.2 hi, by simp [hi, hp]⟩
  · rintro ⟨i, hi, hp⟩
    have hi' := List.mem_range.1 hi
    exact ⟨l[i], List.getElem_mem hi', by simpa [hi'] using hp⟩
theorem any_false_get {α : Type} {l : List α} {p : α → Bool} (h : ∀ j (hj : j < l.length), p l[j] = false) : l.any p = false := by
  rw [List.any_eq_false]
  intro x hx
  obtain ⟨i, hi, rfl⟩ := List.getElem_of_mem hx
  simp [h i hi]
theorem any_true_get {α : Type} {l : List α} {p : α → Bool} {k : Nat} (hk : k < l.length) (h : p l[k] = true) : l.any p = true := by
  rw [List.any_eq_true]
  exact ⟨l[k], List.getElem_mem hk, h⟩
theorem RVec.take {α : Type} {enc : α → Value} {bs : Nat} {h : View} {A : Option Addr} {n c : Nat} {xs : List α} (hr : RVec enc bs h (.slice A n c) xs) {k : Nat} (hk : k ≤ xs.length) : RVec enc bs h (.slice A k c) (xs.take k) := by
  obtain ⟨A', c', e, h1, h2, h3, h4, h5⟩ := hr
  injection e with e1 e2 e3
  subst e1 e2 e3
  have hl : (xs.take k).length = k := by simp; omega
  refine ⟨A, c, by rw [hl], by omega, h2, ?_, h4, fun hp => ?_⟩
  · rw [hl]; exact Nat.le_trans (Nat.mul_le_mul_right _ hk) h3
  · obtain ⟨b, o, ea, hc⟩ := h5 (by omega)
    refine ⟨b, o, ea, fun i hi => ?_⟩
    rw [hl] at hi
    rw [hc i (by omega), List.getElem_take]

/-! ### a law's end -/

theorem trodAll_below {H : Type} {enc : TypeId × Value → H} {P : Program} (hl : laidOutB P = true) {W W' : World} (hb : Below W.heap.size W W') {sp : Nat → Bool} :
    ∀ (ts : List TypeId) (vs : List Value) (ds : List (DataW H)) (ps : List MemPlace), (∀ t ∈ ts, P.readableRec t = true ∧ t < P.types.size) →
      (∀ x ∈ ps, x.block < W.heap.size) → (∀ x ∈ ps, sp x.block = true) → DataW.TrodAll enc P W 0 (fun _ => true) true ts vs ds ps → DataW.TrodAll enc P W' 0 sp true ts vs ds ps
  | [], [], [], ps, _, _, _, h => h
  | t :: ts, v :: vs, d :: ds, ps, hr, hlt, hs, h => by
    obtain ⟨p, q, h1, h2, rfl⟩ := h
    refine ⟨p, q, WideElems.Trod_stays hl (hr t (by simp)).1 (hr t (by simp)).2 h1 (fun x hx => hb.same (hlt x (by simp [hx]))) (fun x hx => hs x (by simp [hx])), ?_, rfl⟩
    exact trodAll_below hl hb ts vs ds q (fun t ht => hr t (by simp [ht])) (fun x hx => hlt x (by simp [hx])) (fun x hx => hs x (by simp [hx])) h2
  | [], [], _ :: _, _, _, _, _, h => h.elim
  | [], _ :: _, _, _, _, _, _, h => h.elim
  | _ :: _, [], _, _, _, _, _, h => h.elim
  | _ :: _, _ :: _, [], _, _, _, _, h => h.elim

/-- a law's end: it returned true, and below the old heap nothing has turned -/
theorem law_close {H : Type} {enc : TypeId × Value → H} {P : Program} (hl : laidOutB P = true) {f : Func} {s : ChangeSpec} {W : World} {args : Array Value} {ds gs : List (DataW H)} {before : List MemPlace} {b : TypeId}
    (hres : f.resultTypes = #[b]) (hbool : P.underlying b = some .bool) (hvars : s.vars = []) (hparams : ∀ t ∈ f.params.toList, P.readableRec t = true ∧ t < P.types.size)
    (hfn : s.fn H (ds ++ gs) = { results := [.lit (.bool true)], args := ds })
    (hW : DataW.Whole enc P f.params.toList s.vars false W args.toList ds gs before) {e : Ending} {W' : World} (he : e = .returned (.bool true)) (hb : Below W.heap.size W W') :
    ∃ v, e = .returned v ∧ s.post enc P f false true false false W args v W' := by
  have hlt : ∀ x ∈ before, x.block < W.heap.size := fun x hx => by simpa using hW.lt x hx
  have hW' := hW
  obtain ⟨p, q, hA, hV, rfl, hfz, hnd⟩ := hW
  have hq : gs = [] ∧ q = [] := by
    rw [hvars] at hV
    cases gs with
    | nil => exact ⟨rfl, hV⟩
    | cons g gs => exact hV.elim
  obtain ⟨rfl, rfl⟩ := hq
  simp only [List.append_nil] at hW' hlt hfz
  refine ⟨_, he, ds, [], p, [], p, [], hW', ?_, ?_, ?_, ?_, fun h => by cases h⟩
  · rw [hres, hfn]
    exact trodAll_mk1 (shut_bool hbool true)
  · rw [hfn]
    exact trodAll_below hl hb _ _ _ _ hparams hlt (fun x hx => by simpa using hlt x hx) hA
  · rw [hfn, hvars]
    rfl
  · exact hb.frame _

/-! ### arguments opened -/

/-- whatever reads as data at type t reads by R -/
def OpensTo (P : Program) (t : TypeId) {α : Type} (R : View → List Value → α → Prop) : Prop :=
  ∀ (H : Type) (enc : TypeId × Value → H) (w : World) (fuel : Nat) (cs : List Value) (x : DataW H × List MemPlace),
    DataW.trod enc P w 0 (fun _ => true) true fuel t cs = some x → (∀ n ∈ x.1.weights P t, n ≤ reachBytes) → ∃ a : α, R w.cell? cs a

theorem opens_int {P : Program} {t : TypeId} {k : IntKind} (ht : P.underlying t = some (.int k)) : OpensTo P t (fun _ cs (n : Int) => cs = [.int k n] ∧ (Lit.int k n).wf = true) := by
  intro H enc w fuel cs x h _
  cases fuel with
  | zero => simp [DataW.trod] at h
  | succ n =>
    unfold DataW.trod at h
    rw [ht] at h
    split at h <;> simp_all

theorem opens_str {P : Program} {t : TypeId} (ht : P.underlying t = some .string) : OpensTo P t (fun _ cs (s : ByteArray) => cs = [.string s] ∧ s.size ≤ reachBytes) := by
  intro H enc w fuel cs x h hw
  cases fuel with
  | zero => simp [DataW.trod] at h
  | succ n =>
    unfold DataW.trod at h
    rw [ht] at h
    split at h <;> simp_all
    obtain ⟨h1, rfl⟩ := h
    have := hw _ (by simp only [DataW.weights]; exact List.mem_singleton.2 rfl)
    simpa using this

theorem mem_weightsAll {H : Type} {P : Program} {e : TypeId} {d : DataW H} {l : List (DataW H)} (hd : d ∈ l) : ∀ n ∈ d.weights P e, n ∈ DataW.weightsAll P e l := by
  induction l with
  | nil => cases hd
  | cons x r ih =>
    intro n hn
    simp only [DataW.weightsAll, List.mem_append]
    rcases List.mem_cons.1 hd with rfl | h
    · exact .inl hn
    · exact .inr (ih h n hn)

theorem addr_of_cell {w : World} {a : Addr} {v : Value} (h : w.cell? a = some v) : a = ⟨a.block, a.off, none⟩ := by
  obtain ⟨b, o, s⟩ := a
  cases s with
  | none => rfl
  | some s =>
    simp [World.cell?] at h
    split at h <;> simp at h

theorem choose_list {α : Type} {p : Nat → α → Prop} : ∀ n, (∀ i, i < n → ∃ a, p i a) → ∃ l : List α, l.length = n ∧ ∀ i (hi : i < l.length), p i l[i]
  | 0, _ => ⟨[], rfl, fun i hi => by simp at hi⟩
  | n + 1, h => by
    obtain ⟨l, hl, hp⟩ := choose_list n (fun i hi => h i (by omega))
    obtain ⟨a, ha⟩ := h n (by omega)
    refine ⟨l ++ [a], by simp [hl], fun i hi => ?_⟩
    by_cases hin : i < l.length
    · rw [List.getElem_append_left hin]; exact hp i hin
    · have : i = n := by simp at hi; omega
      subst this
      rw [List.getElem_append_right (by omega)]
      simpa using ha


theorem opens_sl {P : Program} {t e : TypeId} {α : Type} {R : View → List Value → α → Prop} {sz bs : Nat} (ht : P.underlying t = some (.slice e)) (hc : P.cellsOf e = sz) (hsz : 0 < sz) (hbs : P.bytesOf e = bs) (he : OpensTo P e R) :
    OpensTo P t (fun h cs (xs : List α) => ∃ v, cs = [v] ∧ RSl sz R bs h v xs) := by
  intro H enc w fuel cs x h hw
  rcases Deep.open_slice ht h with ⟨rfl, rfl⟩ | ⟨a, len, cap, m, n, D, Pl, rfl, hb, hl, hm, hmm, hx, hi⟩
  · exact ⟨[], _, rfl, none, 0, rfl, Nat.le_refl _, Nat.zero_le _, by simp, fun _ => rfl, fun h => by simp at h⟩
  · simp only [if_true] at hmm
    subst hmm
    subst hx
    have hrow : ((List.range len).map D).length + ((List.range (m - len)).map fun j => D (len + j)).length = m := by simp; omega
    have hbound : m * bs ≤ 140737488355328 := by
      have := hw _ (by simp only [DataW.weights, ht]; exact List.mem_cons_self)
      rw [hrow, hbs] at this
      unfold reachBytes at this
      omega
    have hel : ∀ i, i < len → ∃ a' : α, ∃ cs', w.cells? 0 (a.add (i * sz)) sz = some cs' ∧ R w.cell? cs' a' := by
      intro i hil
      obtain ⟨cs', h1, h2⟩ := hi i (by omega)
      rw [hc] at h1
      obtain ⟨a', ha'⟩ := he H enc w n cs' _ h2 (fun k hk => hw k (by
        simp only [DataW.weights, ht]
        refine List.mem_cons_of_mem _ (List.mem_append_left _ (mem_weightsAll (d := D i) ?_ k hk))
        exact List.mem_map.2 ⟨i, List.mem_range.2 hil, rfl⟩))
      exact ⟨a', cs', h1, ha'⟩
    obtain ⟨xs, hlen, hp⟩ := choose_list len hel
    subst hlen
    refine ⟨xs, _, rfl, some a, m, rfl, hl, hm, Nat.le_trans (Nat.mul_le_mul_right _ hl) hbound, (fun h => by cases h), fun hpos => ?_⟩
    obtain ⟨cs0, h0, _⟩ := hp 0 hpos
    have ha0 : a = ⟨a.block, a.off, none⟩ := by
      obtain ⟨_, hl0, hat⟩ := World.cells?_some h0
      have := hat 0 hsz
      rw [List.getElem?_eq_getElem (by omega)] at this
      simp [Addr.add] at this
      exact addr_of_cell this
    refine ⟨a.block, a.off, by rw [← ha0], fun i hi => ?_⟩
    obtain ⟨cs', h1, h2⟩ := hp i hi
    obtain ⟨_, hl1, hat⟩ := World.cells?_some h1
    refine ⟨cs', hl1, fun j hj => ?_, h2⟩
    have := hat j hj
    rw [ha0, add_off, add_off] at this
    exact this

theorem opens_vec {P : Program} {t e : TypeId} {α : Type} {enc : α → Value} {R : α → Prop} {bs : Nat} (ht : P.underlying t = some (.slice e)) (hc : P.cellsOf e = 1) (hbs : P.bytesOf e = bs) (he : OpensTo P e (fun _ cs a => cs = [enc a] ∧ R a)) :
    OpensTo P t (fun h cs (xs : List α) => ∃ v, cs = [v] ∧ RVec enc bs h v xs ∧ ∀ x ∈ xs, R x) := by
  intro H enc' w fuel cs x h hw
  obtain ⟨xs, v, rfl, A, c, rfl, h1, h2, h2', hn, h3⟩ := opens_sl ht hc (by decide) hbs he H enc' w fuel cs x h hw
  refine ⟨xs, _, rfl, ⟨A, c, rfl, h1, h2, h2', hn, fun hp => ?_⟩, ?_⟩
  · obtain ⟨b, o, ea, hel⟩ := h3 hp
    refine ⟨b, o, ea, fun i hi => ?_⟩
    obtain ⟨cs', hl, hcell, rfl, _⟩ := hel i hi
    have := hcell 0 (by decide)
    simpa using this
  · intro x hx
    obtain ⟨i, hi, rfl⟩ := List.getElem_of_mem hx
    obtain ⟨b, o, ea, hel⟩ := h3 (by omega)
    obtain ⟨cs', hl, hcell, rfl, hR⟩ := hel i hi
    exact hR

/-- the fields of a struct -/
theorem opens_fields {P : Program} {t : TypeId} {fs : Array Field} (ht : P.underlying t = some (.struct fs)) {H : Type} {enc : TypeId × Value → H} {w : World} {fuel : Nat} {cs : List Value} {x : DataW H × List MemPlace}
    (h : DataW.trod enc P w 0 (fun _ => true) true fuel t cs = some x) (hw : ∀ n ∈ x.1.weights P t, n ≤ reachBytes) :
    cs.length = P.cellsOf t ∧ ∀ (i ty off sz : Nat) {α : Type} {R : View → List Value → α → Prop}, ((fs[i]?).map fun f => (f.type, f.offset)) = some (ty, off) → P.cellsOf ty = sz → OpensTo P ty R → ∃ a, R w.cell? ((cs.drop off).take sz) a := by
  obtain ⟨xs, n, _, rfl, hlen, hxl, hf⟩ := DataW.trod_struct ht h
  refine ⟨hlen, fun i ty off sz α R hif' hsz hR => ?_⟩
  obtain ⟨f, hif, hfe⟩ := Option.map_eq_some_iff.1 hif'
  injection hfe with e1 e2
  subst e1 e2 hsz
  have hi : i < xs.length := by rw [hxl]; exact (Array.getElem?_eq_some_iff.1 hif).1
  have h1 := hf i f hif
  rw [List.getElem?_eq_getElem hi] at h1
  refine hR H enc w n _ _ h1 (fun k hk => hw k ?_)
  simp only [DataW.weights, ht]
  refine DataW.weights_mem_each (j := i) (t := f.type) (d := xs[i].1) ?_ ?_ k hk
  · simp [hif]
  · simp [hi]
end Go.Proofs.Ytnjcboigphdjmaa
