/- Base words for the walks: what memory reads as, and how that is kept. -/
import Derived.Test.YtegcimjmgagpnaaRows
import Derived.WalkKit
import Derived.ProofKit
import Derived.OpenShut
import Derived.IntWalk
import Derived.BigQuiet
import Derived.Deep.QuietTactic
import Derived.Outline
import Derived.Lib.QuietBelow
import Derived.Lib.Hide
import Derived.Deep.RegionHeld3
import Derived.Laws.OwnMore
import Derived.SizedLaws
import Derived.Deep.Slices
namespace Go.Proofs.Ytegcimjmgagpnaa
open Go.ChangeShapes Go.WideShapes Go.ChangeAt Go.RowKit
set_option linter.unusedVariables false

theorem ret_bool {a b : Bool} (h : a = b) : Ending.returned (.bool a) = .returned (.bool b) := by rw [h]
theorem ret_int {k : IntKind} {a b : Int} (h : a = b) : Ending.returned (.int k a) = .returned (.int k b) := by rw [h]
theorem bcell {W w1 : World} (hb : Below W.heap.size W w1) : (∀ b o, b < W.heap.size → w1.cell? ⟨b, o, none⟩ = W.cell? ⟨b, o, none⟩) ∧ (∀ b o, b < W.heap.size → w1.frozen? ⟨b, o, none⟩ = W.frozen? ⟨b, o, none⟩) :=
  ⟨fun b o h => hb.cell (p := ⟨b, o, none⟩) h, fun b o h => hb.frozen (p := ⟨b, o, none⟩) h⟩

/-! ### views -/
abbrev View := Addr → Option Value
def VLe (h h' : View) : Prop := ∀ a v, h a = some v → h' a = some v
theorem VLe.refl (h : View) : VLe h h := fun _ _ e => e
theorem VLe.trans {a b c : View} (h : VLe a b) (k : VLe b c) : VLe a c := fun x v e => k x v (h x v e)
/-- all but one block -/
def View.but (h : View) (g : Option Nat) : View := fun a => if some a.block = g then none else h a
theorem View.but_le (h : View) (g : Option Nat) : VLe (h.but g) h := fun a v e => by
  unfold View.but at e
  split at e
  · cases e
  · exact e
theorem vle_below {w w' : World} (h : Below w.heap.size w w') : VLe w.cell? w'.cell? := fun a v e => by
  rw [h.cell (World.block_lt_of_cell? w a e)]; exact e
theorem vle_but {w w' : World} {g : Option Nat} (hg : w.grownBy w' g) : VLe (View.but w.cell? g) (View.but w'.cell? g) := fun a v e => by
  unfold View.but at e ⊢
  split at e
  · cases e
  · rename_i hne
    rw [if_neg hne]
    exact hg.cell e hne

/-- a slice of values that are one cell each -/
def RVec {α : Type} (enc : α → Value) (bs : Nat) (h : View) (v : Value) (xs : List α) : Prop :=
  ∃ A c, v = .slice A xs.length c ∧ xs.length ≤ c ∧ c * bs ≤ 140737488355328 ∧ (0 < xs.length → ∃ b o, A = some ⟨b, o, none⟩ ∧ ∀ i (hi : i < xs.length), h ⟨b, o + i, none⟩ = some (enc xs[i]))
/-- a slice of values that are sz cells each -/
def RSl {α : Type} (sz : Nat) (R : View → List Value → α → Prop) (bs : Nat) (h : View) (v : Value) (xs : List α) : Prop :=
  ∃ A c, v = .slice A xs.length c ∧ xs.length ≤ c ∧ c * bs ≤ 140737488355328 ∧ (0 < xs.length → ∃ b o, A = some ⟨b, o, none⟩ ∧ ∀ i (hi : i < xs.length), ∃ cs, cs.length = sz ∧ (∀ j, j < sz → h ⟨b, o + i * sz + j, none⟩ = cs[j]?) ∧ R h cs xs[i])
theorem RVec.mono {α : Type} {enc : α → Value} {bs : Nat} {h h' : View} {v : Value} {xs : List α} (hr : RVec enc bs h v xs) (hle : VLe h h') : RVec enc bs h' v xs := by
  obtain ⟨A, c, e, h1, h2, h3⟩ := hr
  refine ⟨A, c, e, h1, h2, fun hp => ?_⟩
  obtain ⟨b, o, ea, hc⟩ := h3 hp
  exact ⟨b, o, ea, fun i hi => hle _ _ (hc i hi)⟩
theorem RSl.mono {α : Type} {sz : Nat} {R : View → List Value → α → Prop} (hR : ∀ h h' cs x, R h cs x → VLe h h' → R h' cs x) {bs : Nat} {h h' : View} {v : Value} {xs : List α} (hr : RSl sz R bs h v xs) (hle : VLe h h') : RSl sz R bs h' v xs := by
  obtain ⟨A, c, e, h1, h2, h3⟩ := hr
  refine ⟨A, c, e, h1, h2, fun hp => ?_⟩
  obtain ⟨b, o, ea, hc⟩ := h3 hp
  refine ⟨b, o, ea, fun i hi => ?_⟩
  obtain ⟨cs, hl, hcell, hx⟩ := hc i hi
  refine ⟨cs, hl, fun j hj => ?_, hR _ _ _ _ hx hle⟩
  have h0 := hcell j hj
  rw [List.getElem?_eq_getElem (by omega)] at h0 ⊢
  exact hle _ _ h0
/-- bytes -/
def encB (b : UInt8) : Value := .int .u8 b.toNat
abbrev RBytes := RVec encB 1
abbrev RInts := RVec (fun n : Int => Value.int .i64 n) 8
abbrev RStrs := RVec (fun s : ByteArray => Value.string s) 16


/-! ### a law's end -/

theorem trodAll_below {H : Type} {enc : TypeId × Value → H} {P : Program} (hl : laidOutB P = true) {W W' : World} (hb : Below W.heap.size W W') {sp : Nat → Bool} :
    ∀ (ts : List TypeId) (vs : List Value) (ds : List (DataW H)) (ps : List MemPlace), (∀ t ∈ ts, P.readableRec t = true ∧ t < P.types.size) →
      (∀ x ∈ ps, x.block < W.heap.size) → (∀ x ∈ ps, sp x.block = true) → DataW.TrodAll enc P W 0 (fun _ => true) true ts vs ds ps → DataW.TrodAll enc P W' 0 sp true ts vs ds ps
  | [], [], [], ps, _, _, _, h => h
  | t :: ts, v :: vs, d :: ds, ps, hr, hlt, hs, h => by
    obtain ⟨p, q, h1, h2, rfl⟩ := h
    refine ⟨p, q, WideElems.Trod_stays hl (hr t (by simp)).1 (hr t (by simp)).2 h1 (fun x hx => hb.same (hlt x (by simp [hx]))) (fun x hx => hs x (by simp [hx])), ?_, rfl⟩
    exact trodAll_below hl hb ts vs ds q (fun t ht => hr t (by simp [ht])) (fun x hx => hlt x (by simp [hx])) (fun x hx => hs x (by simp [hx])) h2
  | [], [], _ :: _, _, _, _, _, h => h.elim
  | [], _ :: _, _, _, _, _, _, h => h.elim
  | _ :: _, [], _, _, _, _, _, h => h.elim
  | _ :: _, _ :: _, [], _, _, _, _, h => h.elim

/-- a law's end: it returned true, and below the old heap nothing has turned -/
theorem law_close {H : Type} {enc : TypeId × Value → H} {P : Program} (hl : laidOutB P = true) {f : Func} {s : ChangeSpec} {W : World} {args : Array Value} {ds gs : List (DataW H)} {before : List MemPlace} {b : TypeId}
    (hres : f.resultTypes = #[b]) (hbool : P.underlying b = some .bool) (hvars : s.vars = []) (hparams : ∀ t ∈ f.params.toList, P.readableRec t = true ∧ t < P.types.size)
    (hfn : s.fn H (ds ++ gs) = { results := [.lit (.bool true)], args := ds })
    (hW : DataW.Whole enc P f.params.toList s.vars false W args.toList ds gs before) {e : Ending} {W' : World} (he : e = .returned (.bool true)) (hb : Below W.heap.size W W') :
    ∃ v, e = .returned v ∧ s.post enc P f false true false false W args v W' := by
  have hlt : ∀ x ∈ before, x.block < W.heap.size := fun x hx => by simpa using hW.lt x hx
  have hW' := hW
  obtain ⟨p, q, hA, hV, rfl, hfz, hnd⟩ := hW
  have hq : gs = [] ∧ q = [] := by
    rw [hvars] at hV
    cases gs with
    | nil => exact ⟨rfl, hV⟩
    | cons g gs => exact hV.elim
  obtain ⟨rfl, rfl⟩ := hq
  simp only [List.append_nil] at hW' hlt hfz
  refine ⟨_, he, ds, [], p, [], p, [], hW', ?_, ?_, ?_, ?_, fun h => by cases h⟩
  · rw [hres, hfn]
    exact trodAll_mk1 (shut_bool hbool true)
  · rw [hfn]
    exact trodAll_below hl hb _ _ _ _ hparams hlt (fun x hx => by simpa using hlt x hx) hA
  · rw [hfn, hvars]
    rfl
  · exact hb.frame _

/-! ### arguments opened -/

/-- whatever reads as data at type t reads by R -/
def OpensTo (P : Program) (t : TypeId) {α : Type} (R : View → List Value → α → Prop) : Prop :=
  ∀ (H : Type) (enc : TypeId × Value → H) (w : World) (fuel : Nat) (cs : List Value) (x : DataW H × List MemPlace),
    DataW.trod enc P w 0 (fun _ => true) true fuel t cs = some x → (∀ n ∈ x.1.weights P t, n ≤ reachBytes) → ∃ a : α, R w.cell? cs a

theorem opens_int {P : Program} {t : TypeId} {k : IntKind} (ht : P.underlying t = some (.int k)) : OpensTo P t (fun _ cs (n : Int) => cs = [.int k n] ∧ (Lit.int k n).wf = true) := by
  intro H enc w fuel cs x h _
  cases fuel with
  | zero => simp [DataW.trod] at h
  | succ n =>
    unfold DataW.trod at h
    rw [ht] at h
    split at h <;> simp_all

theorem opens_str {P : Program} {t : TypeId} (ht : P.underlying t = some .string) : OpensTo P t (fun _ cs (s : ByteArray) => cs = [.string s] ∧ s.size ≤ reachBytes) := by
  intro H enc w fuel cs x h hw
  cases fuel with
  | zero => simp [DataW.trod] at h
  | succ n =>
    unfold DataW.trod at h
    rw [ht] at h
    split at h <;> simp_all
    obtain ⟨h1, rfl⟩ := h
    have := hw _ (by simp only [DataW.weights]; exact List.mem_singleton.2 rfl)
    simpa using this

theorem mem_weightsAll {H : Type} {P : Program} {e : TypeId} {d : DataW H} {l : List (DataW H)} (hd : d ∈ l) : ∀ n ∈ d.weights P e, n ∈ DataW.weightsAll P e l := by
  induction l with
  | nil => cases hd
  | cons x r ih =>
    intro n hn
    simp only [DataW.weightsAll, List.mem_append]
    rcases List.mem_cons.1 hd with rfl | h
    · exact .inl hn
    · exact .inr (ih h n hn)

theorem addr_of_cell {w : World} {a : Addr} {v : Value} (h : w.cell? a = some v) : a = ⟨a.block, a.off, none⟩ := by
  obtain ⟨b, o, s⟩ := a
  cases s with
  | none => rfl
  | some s =>
    simp [World.cell?] at h
    split at h <;> simp at h

theorem choose_list {α : Type} {p : Nat → α → Prop} : ∀ n, (∀ i, i < n → ∃ a, p i a) → ∃ l : List α, l.length = n ∧ ∀ i (hi : i < l.length), p i l[i]
  | 0, _ => ⟨[], rfl, fun i hi => by simp at hi⟩
  | n + 1, h => by
    obtain ⟨l, hl, hp⟩ := choose_list n (fun i hi => h i (by omega))
    obtain ⟨a, ha⟩ := h n (by omega)
    refine ⟨l ++ [a], by simp [hl], fun i hi => ?_⟩
    by_cases hin : i < l.length
    · rw [List.getElem_append_left hin]; exact hp i hin
    · have : i = n := by simp at hi; omega
      subst this
      rw [List.getElem_append_right (by omega)]
      simpa using ha

theorem add_off {b o n : Nat} : (⟨b, o, none⟩ : Addr).add n = ⟨b, o + n, none⟩ := by
  unfold Addr.add; split <;> simp_all

theorem opens_sl {P : Program} {t e : TypeId} {α : Type} {R : View → List Value → α → Prop} {sz bs : Nat} (ht : P.underlying t = some (.slice e)) (hc : P.cellsOf e = sz) (hsz : 0 < sz) (hbs : P.bytesOf e = bs) (he : OpensTo P e R) :
    OpensTo P t (fun h cs (xs : List α) => ∃ v, cs = [v] ∧ RSl sz R bs h v xs) := by
  intro H enc w fuel cs x h hw
  rcases Deep.open_slice ht h with ⟨rfl, rfl⟩ | ⟨a, len, cap, m, n, D, Pl, rfl, hb, hl, hm, hmm, hx, hi⟩
  · exact ⟨[], _, rfl, none, 0, rfl, Nat.le_refl _, by simp, fun h => by simp at h⟩
  · simp only [if_true] at hmm
    subst hmm
    subst hx
    have hrow : ((List.range len).map D).length + ((List.range (m - len)).map fun j => D (len + j)).length = m := by simp; omega
    have hbound : m * bs ≤ 140737488355328 := by
      have := hw _ (by simp only [DataW.weights, ht]; exact List.mem_cons_self)
      rw [hrow, hbs] at this
      unfold reachBytes at this
      omega
    have hel : ∀ i, i < len → ∃ a' : α, ∃ cs', w.cells? 0 (a.add (i * sz)) sz = some cs' ∧ R w.cell? cs' a' := by
      intro i hil
      obtain ⟨cs', h1, h2⟩ := hi i (by omega)
      rw [hc] at h1
      obtain ⟨a', ha'⟩ := he H enc w n cs' _ h2 (fun k hk => hw k (by
        simp only [DataW.weights, ht]
        refine List.mem_cons_of_mem _ (List.mem_append_left _ (mem_weightsAll (d := D i) ?_ k hk))
        exact List.mem_map.2 ⟨i, List.mem_range.2 hil, rfl⟩))
      exact ⟨a', cs', h1, ha'⟩
    obtain ⟨xs, hlen, hp⟩ := choose_list len hel
    subst hlen
    refine ⟨xs, _, rfl, some a, m, rfl, hl, hbound, fun hpos => ?_⟩
    obtain ⟨cs0, h0, _⟩ := hp 0 hpos
    have ha0 : a = ⟨a.block, a.off, none⟩ := by
      obtain ⟨_, hl0, hat⟩ := World.cells?_some h0
      have := hat 0 hsz
      rw [List.getElem?_eq_getElem (by omega)] at this
      simp [Addr.add] at this
      exact addr_of_cell this
    refine ⟨a.block, a.off, by rw [← ha0], fun i hi => ?_⟩
    obtain ⟨cs', h1, h2⟩ := hp i hi
    obtain ⟨_, hl1, hat⟩ := World.cells?_some h1
    refine ⟨cs', hl1, fun j hj => ?_, h2⟩
    have := hat j hj
    rw [ha0, add_off, add_off] at this
    exact this

theorem opens_vec {P : Program} {t e : TypeId} {α : Type} {enc : α → Value} {R : α → Prop} {bs : Nat} (ht : P.underlying t = some (.slice e)) (hc : P.cellsOf e = 1) (hbs : P.bytesOf e = bs) (he : OpensTo P e (fun _ cs a => cs = [enc a] ∧ R a)) :
    OpensTo P t (fun h cs (xs : List α) => ∃ v, cs = [v] ∧ RVec enc bs h v xs ∧ ∀ x ∈ xs, R x) := by
  intro H enc' w fuel cs x h hw
  obtain ⟨xs, v, rfl, A, c, rfl, h1, h2, h3⟩ := opens_sl ht hc (by decide) hbs he H enc' w fuel cs x h hw
  refine ⟨xs, _, rfl, ⟨A, c, rfl, h1, h2, fun hp => ?_⟩, ?_⟩
  · obtain ⟨b, o, ea, hel⟩ := h3 hp
    refine ⟨b, o, ea, fun i hi => ?_⟩
    obtain ⟨cs', hl, hcell, rfl, _⟩ := hel i hi
    have := hcell 0 (by decide)
    simpa using this
  · intro x hx
    obtain ⟨i, hi, rfl⟩ := List.getElem_of_mem hx
    obtain ⟨b, o, ea, hel⟩ := h3 (by omega)
    obtain ⟨cs', hl, hcell, rfl, hR⟩ := hel i hi
    exact hR

/-- the fields of a struct -/
theorem opens_fields {P : Program} {t : TypeId} {fs : Array Field} (ht : P.underlying t = some (.struct fs)) {H : Type} {enc : TypeId × Value → H} {w : World} {fuel : Nat} {cs : List Value} {x : DataW H × List MemPlace}
    (h : DataW.trod enc P w 0 (fun _ => true) true fuel t cs = some x) (hw : ∀ n ∈ x.1.weights P t, n ≤ reachBytes) :
    cs.length = P.cellsOf t ∧ ∀ (i ty off sz : Nat) {α : Type} {R : View → List Value → α → Prop}, ((fs[i]?).map fun f => (f.type, f.offset)) = some (ty, off) → P.cellsOf ty = sz → OpensTo P ty R → ∃ a, R w.cell? ((cs.drop off).take sz) a := by
  obtain ⟨xs, n, _, rfl, hlen, hxl, hf⟩ := DataW.trod_struct ht h
  refine ⟨hlen, fun i ty off sz α R hif' hsz hR => ?_⟩
  obtain ⟨f, hif, hfe⟩ := Option.map_eq_some_iff.1 hif'
  injection hfe with e1 e2
  subst e1 e2 hsz
  have hi : i < xs.length := by rw [hxl]; exact (Array.getElem?_eq_some_iff.1 hif).1
  have h1 := hf i f hif
  rw [List.getElem?_eq_getElem hi] at h1
  refine hR H enc w n _ _ h1 (fun k hk => hw k ?_)
  simp only [DataW.weights, ht]
  refine DataW.weights_mem_each (j := i) (t := f.type) (d := xs[i].1) ?_ ?_ k hk
  · simp [hif]
  · simp [hi]
end Go.Proofs.Ytegcimjmgagpnaa
