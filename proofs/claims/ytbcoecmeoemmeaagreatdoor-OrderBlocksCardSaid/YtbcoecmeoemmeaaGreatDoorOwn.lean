/- Rows of the call's own whose elements are several cells and lead on into memory. -/
import Derived.Test.YtbcoecmeoemmeaaGreatDoorBlk
namespace Go.Proofs.YtbcoecmeoemmeaaGreatDoor
open Go.ChangeShapes Go.WideShapes Go.ChangeAt Go.RowKit
set_option linter.unusedVariables false
/-- where an append's row lies: where it lay, or in a new block -/
theorem append_loc {P : Program} (w : World) (base : Nat) (t ty e : TypeId) (i : TypeInfo) (z : Value) (size bytes : Nat) (ht : P.underlying t = some (.slice e)) (hi : P.info? e = some i) (hz : i.zero = some z)
    (hsize : i.size = size) (hby : i.bytes = bytes)
    (v : Value) (n : Nat) (xs : List Value) (hown : w.ownsRow base e size v n xs)
    (ad : Addr) (m c : Nat) (news : List Value) (hl : news.length = m * size) (hnews : ∀ j u, news[j]? = some u → w.cell? (ad.add j) = some u) (h1 : ∀ u ∈ news, u.oneCell' = true)
    (hm : 0 < m) (h63 : n + m ≤ 140737488355328) (hbytes : (n + m) * bytes ≤ 140737488355328) {v' : Value} {w' : World}
    (hr : (Builtin.append_ #[t, t] ty #[v, .slice (some ad) m c]).run P w = .ok v' w') : v'.ownBlock = v.ownBlock ∨ v'.ownBlock = some w.heap.size := by
  subst hsize hby
  rcases hown.2 with ⟨rfl, rfl⟩ | ⟨g, cap, cur, rfl, hbg, hg, hnc, hcm, hcs, htake⟩
  · rw [Nat.zero_add] at hbytes
    rw [run_append_nil (P := P) w t ty e i z ht hi hz ad m c news hl hnews hm (by omega) (by omega)] at hr
    injection hr with hr _
    subst hr
    exact .inr rfl
  · by_cases hroom : n + m ≤ cap
    · have hfit : n * i.size + news.length ≤ cur.size := by rw [hl, hcs, ← Nat.add_mul]; exact Nat.mul_le_mul_right _ hroom
      rw [run_append_room (P := P) w t ty e i ht hi g n cap cur hg ad m c news hl hnews h1 hroom hfit] at hr
      injection hr with hr _
      subst hr
      exact .inl rfl
    · have holds : ∀ j u, xs[j]? = some u → w.cell? ((⟨g, 0, none⟩ : Addr).add j) = some u := hown.cells (g := g) rfl
      rw [run_append_grow (P := P) w t ty e i z ht hi hz ⟨g, 0, none⟩ n cap xs hown.1 holds ad m c news hl hnews (by omega) (by omega) (growslice_fits (by omega) hbytes)] at hr
      injection hr with hr _
      subst hr
      exact .inr rfl

/-- a row of the call's own, its elements sz cells each, that read by R outside the row's own block -/
structure OwnSl {α : Type} (sz : Nat) (R : View → List Value → α → Prop) (e : TypeId) (w : World) (base : Nat) (v : Value) (xs : List α) : Prop where
  own : ∃ css : List (List Value), w.ownsRow base e sz v xs.length css.flatten ∧ css.length = xs.length ∧ ∀ i (hi : i < xs.length), ∃ cs, css[i]? = some cs ∧ cs.length = sz ∧ R (View.but w.cell? v.ownBlock) cs xs[i]
def Mono {α : Type} (R : View → List Value → α → Prop) : Prop := ∀ h h' cs x, R h cs x → VLe h h' → R h' cs x
theorem OwnSl.nil {α : Type} (sz : Nat) (R : View → List Value → α → Prop) (e : TypeId) (w : World) (base : Nat) : OwnSl sz R e w base (.slice none 0 0) [] :=
  ⟨[], World.ownsRow_nil _ _ _ _, rfl, fun i hi => by simp at hi⟩
theorem flatten_len {sz : Nat} {css : List (List Value)} (h : ∀ i (hi : i < css.length), css[i].length = sz) : css.flatten.length = css.length * sz := by
  induction css with
  | nil => simp
  | cons c r ih =>
    have h0 := h 0 (by simp)
    have := ih (fun i hi => by have := h (i + 1) (by simp; omega); simpa using this)
    simp only [List.getElem_cons_zero] at h0
    simp [this, h0, Nat.add_mul, Nat.add_comm]
theorem flatten_at {sz : Nat} {css : List (List Value)} (h : ∀ i (hi : i < css.length), css[i].length = sz) {i j : Nat} {cs : List Value} (hi : css[i]? = some cs) (hj : j < sz) : css.flatten[i * sz + j]? = cs[j]? := by
  induction css generalizing i with
  | nil => simp at hi
  | cons c r ih =>
    have h0 := h 0 (by simp)
    simp only [List.getElem_cons_zero] at h0
    cases i with
    | zero =>
      simp at hi
      subst hi
      simp [List.getElem?_append, h0, hj]
    | succ i =>
      have := ih (fun i hi => by have := h (i + 1) (by simp; omega); simpa using this) (i := i) (by simpa using hi)
      rw [List.flatten_cons, List.getElem?_append_right (by rw [h0, Nat.add_mul]; omega), h0, show (i + 1) * sz + j - sz = i * sz + j by rw [Nat.add_mul]; omega]
      exact this
theorem OwnSl.form {α : Type} {sz : Nat} {R : View → List Value → α → Prop} {e : TypeId} {w : World} {b : Nat} {v : Value} {xs : List α} (h : OwnSl sz R e w b v xs) : ∃ A c, v = .slice A xs.length c := by
  obtain ⟨css, h1, _⟩ := h.own
  rcases h1.2 with ⟨rfl, h2⟩ | ⟨g, cap, cur, rfl, _⟩
  · exact ⟨none, 0, by rw [h2]⟩
  · exact ⟨_, _, rfl⟩
theorem OwnSl.base {α : Type} {sz : Nat} {R : View → List Value → α → Prop} {e : TypeId} {w : World} {b b' : Nat} {v : Value} {xs : List α} (h : OwnSl sz R e w b v xs) (hb : b' ≤ b) : OwnSl sz R e w b' v xs := by
  obtain ⟨css, ⟨h1, h2⟩, h3⟩ := h.own
  refine ⟨css, ⟨h1, ?_⟩, h3⟩
  rcases h2 with h2 | ⟨g, cap, cur, h3, h4, h5⟩
  · exact .inl h2
  · exact .inr ⟨g, cap, cur, h3, Nat.le_trans hb h4, h5⟩
theorem but_below {w w' : World} (hb : Below w.heap.size w w') (g : Option Nat) : VLe (View.but w.cell? g) (View.but w'.cell? g) := vle_but (grownBy_below g hb)
theorem OwnSl.kept {α : Type} {sz : Nat} {R : View → List Value → α → Prop} (hR : Mono R) {e : TypeId} {w w' : World} {b : Nat} {v : Value} {xs : List α} (h : OwnSl sz R e w b v xs) (hb : Below w.heap.size w w') : OwnSl sz R e w' b v xs := by
  obtain ⟨css, h1, h2, h3⟩ := h.own
  refine ⟨css, h1.kept (row := none) (grownBy_below _ hb) (by cases v.ownBlock <;> simp), h2, fun i hi => ?_⟩
  obtain ⟨cs, q1, q2, q3⟩ := h3 i hi
  exact ⟨cs, q1, q2, hR _ _ _ _ q3 (but_below hb _)⟩
theorem OwnSl.reads {α : Type} {sz bs : Nat} {R : View → List Value → α → Prop} (hR : Mono R) {e : TypeId} {w : World} {b : Nat} {v : Value} {xs : List α} (h : OwnSl sz R e w b v xs) (hbs : xs.length * bs ≤ 140737488355328) : RSl sz R bs w.cell? v xs := by
  obtain ⟨css, h1, h2, h3⟩ := h.own
  have hlen : ∀ i (hi : i < css.length), css[i].length = sz := fun i hi => by
    obtain ⟨cs, q1, q2, _⟩ := h3 i (by omega)
    rw [List.getElem?_eq_getElem hi] at q1
    injection q1 with q1
    rw [q1]; exact q2
  rcases id h1.2 with ⟨rfl, h0⟩ | ⟨g, cap, cur, rfl, k2, k3, k4, k5, k6, k7⟩
  · have : xs = [] := List.eq_nil_of_length_eq_zero h0
    subst this
    exact ⟨none, 0, rfl, Nat.le_refl _, Nat.zero_le _, by simp, fun _ => rfl, fun h => by simp at h⟩
  · refine ⟨_, cap, rfl, k4, k5, hbs, (fun h => by cases h), fun hp => ⟨g, 0, rfl, fun i hi => ?_⟩⟩
    obtain ⟨cs, q1, q2, q3⟩ := h3 i hi
    refine ⟨cs, q2, fun j hj => ?_, hR _ _ _ _ q3 (View.but_le _ _)⟩
    have hf := flatten_at hlen q1 hj
    have hj' : cs[j]? = some (cs[j]'(by omega)) := List.getElem?_eq_getElem _
    rw [hj']
    have := h1.cells (g := g) rfl (i * sz + j) _ (hf.trans hj')
    rw [add_off] at this
    rwa [Nat.zero_add] at this ⊢
/-- what the type table says of an element -/
def Elem (P : Program) (t e : TypeId) (sz bytes : Nat) : Prop := P.underlying t = some (.slice e) ∧ 0 < sz ∧ ∃ i z, P.info? e = some i ∧ i.zero = some z ∧ i.size = sz ∧ i.bytes = bytes ∧ z.cells.size = sz
theorem elemN {P : Program} {t e : TypeId} {sz bytes : Nat} {z : Value} (ht : P.underlying t = some (.slice e)) (h : (P.info? e).map (fun i => (i.zero, i.size, i.bytes)) = some (some z, sz, bytes)) (hz : z.cells.size = sz) (hsz : 0 < sz) : Elem P t e sz bytes := by
  obtain ⟨i0, hi, hz0, hz1, hz2⟩ := info_parts h
  exact ⟨ht, hsz, i0, z, hi, hz0, hz1, hz2, hz⟩
/-- 'append(out, x)', x a struct that lies in a block just made -/
theorem wp_append_sl1 {α : Type} {sz : Nat} {R : View → List Value → α → Prop} (hR : Mono R) {P : Program} {wr : World} {o : Oper} {a : Act} {K : Act → World → Prop} {Q : Exit → Act → World → Prop} {t e : TypeId} {bytes base n : Nat} {v : Value} {xs : List α} {W : World} (x : α) (cs : List Value)
    (hE : Elem P t e sz bytes) (s y : Operand)
    (ho : o.op = .call { callee := .builtin .append, args := #[s, y], argTypes := #[t, t] })
    (hs : a.eval s = v) (hown : OwnSl sz R e wr base v xs) (hbl : Below base W wr) (hbase : base ≤ wr.heap.size)
    {gy : Nat} (hx : a.eval y = .slice (some ⟨gy, 0, none⟩) 1 1) (hgy : gy = wr.heap.size) (hl : cs.length = sz) (h1 : (cs.all fun u => u.oneCell') = true) (hxR : R (View.but wr.cell? v.ownBlock) cs x)
    (hc : n ≤ 140737488355328) (hn : (xs.length + 1) * bytes ≤ n) (hn' : xs.length + 1 ≤ n)
    (h : ∀ v' w', OwnSl sz R e w' base v' (xs ++ [x]) → Below base W w' → wr.grownBy w' v.ownBlock → K (a.put o.dst v') w') : o.wp P a (wr.alloc (.cells cs.toArray e)) K Q := by
  subst hgy
  obtain ⟨ht, hsz, i, z, hi, hz0, hz1, hz2, hzs⟩ := hE
  obtain ⟨css, q1, q2, q3⟩ := hown.own
  have h1' : ∀ u ∈ cs, u.oneCell' = true := fun u hu => List.all_eq_true.1 h1 u hu
  have hnews : ∀ j u, cs[j]? = some u → (wr.alloc (.cells cs.toArray e)).cell? ((⟨wr.heap.size, 0, none⟩ : Addr).add j) = some u := fun j u hu => by
    rw [add_off, Nat.zero_add, cell_of_row _ _ j cs.toArray e (0, 0) (heap_alloc_new wr _)]
    simpa using hu
  have q1' := q1.alloc (.cells cs.toArray e)
  obtain ⟨v', w', hr, hro, hg⟩ := run_append_any (P := P) (wr.alloc (.cells cs.toArray e)) base t o.type e i z sz bytes ht hi hz0 hz1 hz2 hzs hsz v xs.length css.flatten q1' (some ⟨wr.heap.size, 0, none⟩) 1 1 cs (by rw [hl, Nat.one_mul]) (fun h => by cases h)
    (fun ad had => by obtain rfl := Option.some.inj had; exact hnews) h1' (le_maxLen (Nat.le_trans hn' hc)) (Nat.le_trans hn hc) (le_alloc _ hbase)
  have hloc := append_loc (P := P) (wr.alloc (.cells cs.toArray e)) base t o.type e i z sz bytes ht hi hz0 hz1 hz2 v xs.length css.flatten q1' ⟨wr.heap.size, 0, none⟩ 1 1 cs (by rw [hl, Nat.one_mul]) hnews h1' (by decide) (Nat.le_trans hn' hc) (Nat.le_trans hn hc) hr
  have g1 := World.grownBy_alloc wr (.cells cs.toArray e) v.ownBlock
  have g2 := grownBy_trans g1 hg
  have hview : VLe (View.but wr.cell? v.ownBlock) (View.but w'.cell? v'.ownBlock) := by
    intro ad u hu
    have hu0 := hu
    unfold View.but at hu ⊢
    split at hu
    · cases hu
    · rename_i hne
      have hlt := World.block_lt_of_cell? wr ad hu
      have hne' : ¬ (some ad.block = v'.ownBlock) := by
        rcases hloc with e | e
        · rw [e]; exact hne
        · rw [e]; intro e; injection e with e; simp at e; omega
      rw [if_neg hne']
      exact g2.cell hu hne
  have hcell : o.wp P a (wr.alloc (.cells cs.toArray e)) K Q := by
    unfold Oper.wp execOp
    simp [ho, resolve, invoke, builtin, hs, hx, hr, Result.andThen, Oper.upon]
    refine h v' w' ⟨css ++ [cs], ?_, by simp [q2], fun k hk => ?_⟩ ((hbl.alloc hbase _).grown hg (le_alloc _ hbase) (fun g hg => (q1.lt g hg).1)) g2
    · rw [List.flatten_append, List.length_append]
      simpa using hro
    · by_cases hlt : k < xs.length
      · obtain ⟨c, r1, r2, r3⟩ := q3 k hlt
        refine ⟨c, by rw [List.getElem?_append_left (by omega)]; exact r1, r2, ?_⟩
        rw [List.getElem_append_left hlt]
        exact hR _ _ _ _ r3 hview
      · have : k = xs.length := by simp at hk; omega
        subst this
        refine ⟨cs, by rw [List.getElem?_append_right (by omega)]; simp [q2], hl, ?_⟩
        rw [List.getElem_append_right (by omega)]
        simpa using hR _ _ _ _ hxR hview
  exact hcell
theorem wpList_append_sl1 {α : Type} {sz : Nat} {R : View → List Value → α → Prop} (hR : Mono R) {P : Program} {wr : World} {ops : Array Oper} {rest : List Oper} {o : Oper} {a : Act} {Q : Exit → Act → World → Prop} {t e : TypeId} {bytes base n : Nat} {v : Value} {xs : List α} {W : World} (x : α) (cs : List Value)
    (hE : Elem P t e sz bytes) (s y : Operand) (hgd : o.guard = none)
    (ho : o.op = .call { callee := .builtin .append, args := #[s, y], argTypes := #[t, t] })
    (hs : a.eval s = v) (hown : OwnSl sz R e wr base v xs) (hbl : Below base W wr) (hbase : base ≤ wr.heap.size)
    {gy : Nat} (hx : a.eval y = .slice (some ⟨gy, 0, none⟩) 1 1) (hgy : gy = wr.heap.size) (hl : cs.length = sz) (h1 : (cs.all fun u => u.oneCell') = true) (hxR : R (View.but wr.cell? v.ownBlock) cs x)
    (hc : n ≤ 140737488355328) (hn : (xs.length + 1) * bytes ≤ n) (hn' : xs.length + 1 ≤ n)
    (h : ∀ v' w', OwnSl sz R e w' base v' (xs ++ [x]) → Below base W w' → wr.grownBy w' v.ownBlock → wpList P ops Q rest (a.put o.dst v') w') : wpList P ops Q (o :: rest) a (wr.alloc (.cells cs.toArray e)) :=
  wpList_plain hgd fun _ hK => wp_append_sl1 hR x cs hE s y ho hs hown hbl hbase hx hgy hl h1 hxR hc hn hn' fun v' w' h2 h3 h4 => hK _ _ (h v' w' h2 h3 h4)
theorem OwnSl.lt {α : Type} {sz : Nat} {R : View → List Value → α → Prop} {e : TypeId} {w : World} {b : Nat} {v : Value} {xs : List α} (h : OwnSl sz R e w b v xs) : ∀ k, v.ownBlock = some k → b ≤ k ∧ k < w.heap.size := by
  obtain ⟨css, h1, _⟩ := h.own
  exact h1.lt
theorem RSl.take {α : Type} {sz bs : Nat} {R : View → List Value → α → Prop} {h : View} {A : Option Addr} {n c : Nat} {xs : List α} (hr : RSl sz R bs h (.slice A n c) xs) {k : Nat} (hk : k ≤ xs.length) : RSl sz R bs h (.slice A k c) (xs.take k) := by
  obtain ⟨A', c', e, h1, h2, h3, h4, h5⟩ := hr
  injection e with e1 e2 e3
  subst e1 e2 e3
  have hl : (xs.take k).length = k := by simp; omega
  refine ⟨A, c, by rw [hl], by omega, h2, ?_, h4, fun hp => ?_⟩
  · rw [hl]; exact Nat.le_trans (Nat.mul_le_mul_right _ hk) h3
  · obtain ⟨b, o, ea, hc⟩ := h5 (by omega)
    refine ⟨b, o, ea, fun i hi => ?_⟩
    rw [hl] at hi
    obtain ⟨cs, q1, q2, q3⟩ := hc i (by omega)
    exact ⟨cs, q1, q2, by rw [List.getElem_take]; exact q3⟩
/-- what is owned from a later block on reads without an earlier one -/
theorem OwnVec.reads_but {α : Type} {enc : α → Value} {bs base : Nat} {e : TypeId} {w : World} {v : Value} {xs : List α} (h : OwnVec enc e w base v xs) (hb : xs.length * bs ≤ 140737488355328) {g : Option Nat} (hg : ∀ k, g = some k → k < base) : RVec enc bs (View.but w.cell? g) v xs := by
  have hlt := h.own.lt
  obtain ⟨A, c, e1, q1, q2, q3, q4, q5⟩ := h.reads hb
  refine ⟨A, c, e1, q1, q2, q3, q4, fun hp => ?_⟩
  obtain ⟨b, o, ea, hc⟩ := q5 hp
  refine ⟨b, o, ea, fun i hi => ?_⟩
  have hb' := (hlt b (by rw [e1, ea]; rfl)).1
  unfold View.but
  rw [if_neg (by intro e; have := hg _ e.symm; simp at this; omega)]
  exact hc i hi
end Go.Proofs.YtbcoecmeoemmeaaGreatDoor
