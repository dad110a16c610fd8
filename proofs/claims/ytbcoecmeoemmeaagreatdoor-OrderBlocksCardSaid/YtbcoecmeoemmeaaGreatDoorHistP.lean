/- Histories: what a digest stands on, walked by a stack and marked backwards: in one order. -/
import Derived.Test.YtbcoecmeoemmeaaGreatDoorDagP
namespace Go.Proofs.YtbcoecmeoemmeaaGreatDoor
open Go.ChangeShapes Go.WideShapes Go.ChangeAt Go.RowKit
set_option linter.unusedVariables false
section
variable (l : List Crt) (ds : List (List UInt8))
def plc (d : List UInt8) : Nat := (placeI ds d).toNat
def StepH (i j : Nat) : Prop := ∃ c p, l[i]? = some c ∧ p ∈ c.hdr.parents ∧ j = plc ds p
structure GoodD : Prop where
  par : ∀ (i : Nat) (c : Crt), l[i]? = some c → ∀ p ∈ c.hdr.parents, 0 ≤ placeI ds p ∧ plc ds p < i ∧ ∃ c', l[plc ds p]? = some c' ∧ c'.hdr.round = c.hdr.round - 1
  few : ∀ c ∈ l, c.hdr.parents.length ≤ 4
  lone : Lone l
  auth : Auth l
  rnd : ∀ c ∈ l, 1 ≤ c.hdr.round
inductive Rch (k : Nat) : Nat → Prop
  | base : Rch k k
  | step {i j : Nat} : Rch k i → StepH l ds i j → Rch k j
end
section
variable {l : List Crt} {ds : List (List UInt8)} {k : Nat}
theorem placeI_take {ds : List (List UInt8)} {d : List UInt8} {n : Nat} (h : 0 ≤ placeI (ds.take n) d) : placeI ds d = placeI (ds.take n) d ∧ plc ds d < n ∧ plc ds d < ds.length := by
  unfold plc
  rcases idxI_cases (· == d) (ds.take n) with ⟨h1, _⟩ | ⟨i, hi, h1, h2, h3⟩
  · unfold placeI at h; rw [h1] at h; omega
  · have hi' : i < n ∧ i < ds.length := by simp at hi; omega
    have : placeI ds d = i := idxI_found hi'.2 (fun j hj hji => by have := h3 j (by simp; omega) hji; simpa using this) (by simpa using h2)
    have e2 : placeI (ds.take n) d = i := h1
    rw [this, e2]
    exact ⟨rfl, by omega, by omega⟩
theorem Rch.le (hg : GoodD l ds) {i : Nat} (h : Rch l ds k i) : i ≤ k := by
  induction h with
  | base => exact Nat.le_refl _
  | step _ hs ih =>
    obtain ⟨c, p, hc, hp, rfl⟩ := hs
    have := (hg.par _ c hc p hp).2.1
    omega
theorem Rch.round (hg : GoodD l ds) {i : Nat} (h : Rch l ds k i) {ck : Crt} (hk : l[k]? = some ck) : ∃ c, l[i]? = some c ∧ c.hdr.round ≤ ck.hdr.round := by
  induction h with
  | base => exact ⟨ck, hk, Int.le_refl _⟩
  | step _ hs ih =>
    obtain ⟨c, h1, h2⟩ := ih
    obtain ⟨c0, p, hc, hp, rfl⟩ := hs
    rw [h1] at hc
    obtain rfl := Option.some.inj hc
    obtain ⟨_, _, c', h3, h4⟩ := hg.par _ c h1 p hp
    exact ⟨c', h3, by omega⟩
theorem stepH_lt (hg : GoodD l ds) {i j : Nat} (hs : StepH l ds i j) : j < i ∧ i < l.length := by
  obtain ⟨c, p, hc, hp, rfl⟩ := hs
  exact ⟨(hg.par _ c hc p hp).2.1, (List.getElem?_eq_some_iff.1 hc).1⟩
/-- the walk back: what was met, what is still to be looked at -/
structure Dfs (l : List Crt) (ds : List (List UInt8)) (k : Nat) (met : List Nat) (todo : List (List UInt8)) : Prop where
  nod : met.Nodup
  lt : ∀ i ∈ met, i < l.length
  rch : ∀ i ∈ met, Rch l ds k i
  td : ∀ x ∈ todo, 0 ≤ placeI ds x ∧ plc ds x < l.length ∧ Rch l ds k (plc ds x)
  cl : ∀ i ∈ met, ∀ j, StepH l ds i j → j ∈ met ∨ ∃ x ∈ todo, plc ds x = j
  st : k ∈ met ∨ ∃ x ∈ todo, plc ds x = k
theorem Dfs.start {x : List UInt8} (h0 : 0 ≤ placeI ds x) (hk : plc ds x = k) (hl : k < l.length) : Dfs l ds k [] [x] where
  nod := List.nodup_nil
  lt := fun i hi => by cases hi
  rch := fun i hi => by cases hi
  td := fun y hy => by obtain rfl := List.mem_singleton.1 hy; exact ⟨h0, by omega, by rw [hk]; exact .base⟩
  cl := fun i hi => by cases hi
  st := .inr ⟨x, List.mem_singleton.2 rfl, hk⟩
theorem Dfs.skip {met : List Nat} {t : List (List UInt8)} {x : List UInt8} (h : Dfs l ds k met (t ++ [x])) (hm : plc ds x ∈ met) : Dfs l ds k met t where
  nod := h.nod
  lt := h.lt
  rch := h.rch
  td := fun y hy => h.td y (List.mem_append_left _ hy)
  cl := fun i hi j hs => by
    rcases h.cl i hi j hs with h1 | ⟨y, hy, h2⟩
    · exact .inl h1
    · rcases List.mem_append.1 hy with h3 | h3
      · exact .inr ⟨y, h3, h2⟩
      · obtain rfl := List.mem_singleton.1 h3
        exact .inl (by rw [← h2]; exact hm)
  st := by
    rcases h.st with h1 | ⟨y, hy, h2⟩
    · exact .inl h1
    · rcases List.mem_append.1 hy with h3 | h3
      · exact .inr ⟨y, h3, h2⟩
      · obtain rfl := List.mem_singleton.1 h3
        exact .inl (by rw [← h2]; exact hm)
theorem Dfs.new (hg : GoodD l ds) {met : List Nat} {t : List (List UInt8)} {x : List UInt8} {c : Crt} (h : Dfs l ds k met (t ++ [x])) (hm : plc ds x ∉ met) (hc : l[plc ds x]? = some c) : Dfs l ds k (met ++ [plc ds x]) (t ++ c.hdr.parents) := by
  have hx := h.td x (List.mem_append_right _ (List.mem_singleton.2 rfl))
  refine ⟨?_, ?_, ?_, ?_, ?_, ?_⟩
  · rw [List.nodup_append]
    exact ⟨h.nod, by simp, fun a ha b hb e => by obtain rfl := List.mem_singleton.1 hb; subst e; exact hm ha⟩
  · intro i hi
    rcases List.mem_append.1 hi with h1 | h1
    · exact h.lt i h1
    · obtain rfl := List.mem_singleton.1 h1; exact hx.2.1
  · intro i hi
    rcases List.mem_append.1 hi with h1 | h1
    · exact h.rch i h1
    · obtain rfl := List.mem_singleton.1 h1; exact hx.2.2
  · intro y hy
    rcases List.mem_append.1 hy with h1 | h1
    · exact h.td y (List.mem_append_left _ h1)
    · obtain ⟨q1, q2, c', q3, _⟩ := hg.par _ c hc y h1
      exact ⟨q1, (List.getElem?_eq_some_iff.1 q3).1, .step hx.2.2 ⟨c, y, hc, h1, rfl⟩⟩
  · intro i hi j hs
    rcases List.mem_append.1 hi with h1 | h1
    · rcases h.cl i h1 j hs with h2 | ⟨y, hy, h2⟩
      · exact .inl (List.mem_append_left _ h2)
      · rcases List.mem_append.1 hy with h3 | h3
        · exact .inr ⟨y, List.mem_append_left _ h3, h2⟩
        · obtain rfl := List.mem_singleton.1 h3
          exact .inl (List.mem_append_right _ (List.mem_singleton.2 h2.symm))
    · obtain rfl := List.mem_singleton.1 h1
      obtain ⟨c', p, hc', hp, rfl⟩ := hs
      rw [hc] at hc'
      obtain rfl := Option.some.inj hc'
      exact .inr ⟨p, List.mem_append_right _ hp, rfl⟩
  · rcases h.st with h2 | ⟨y, hy, h2⟩
    · exact .inl (List.mem_append_left _ h2)
    · rcases List.mem_append.1 hy with h3 | h3
      · exact .inr ⟨y, List.mem_append_left _ h3, h2⟩
      · obtain rfl := List.mem_singleton.1 h3
        exact .inl (List.mem_append_right _ (List.mem_singleton.2 h2.symm))
theorem Dfs.done {met : List Nat} (h : Dfs l ds k met []) {i : Nat} : i ∈ met ↔ Rch l ds k i := by
  refine ⟨h.rch i, fun hr => ?_⟩
  induction hr with
  | base =>
    rcases h.st with h1 | ⟨y, hy, _⟩
    · exact h1
    · cases hy
  | step _ hs ih =>
    rcases h.cl _ ih _ hs with h1 | ⟨y, hy, _⟩
    · exact h1
    · cases hy
theorem nodup_lt_len : ∀ {n : Nat} {m : List Nat}, m.Nodup → (∀ i ∈ m, i < n) → m.length ≤ n
  | 0, m, _, hl => by
    cases m with
    | nil => exact Nat.le_refl _
    | cons a m => exact absurd (hl a (List.mem_cons_self)) (Nat.not_lt_zero _)
  | n + 1, m, hn, hl => by
    have h1 := nodup_lt_len (n := n) (m := m.erase n) (hn.erase n) (fun i hi => by
      have h2 := (List.Nodup.mem_erase_iff hn).1 hi
      have := hl i h2.2
      omega)
    rw [List.length_erase] at h1
    split at h1 <;> omega
theorem Dfs.len {met : List Nat} {todo : List (List UInt8)} (h : Dfs l ds k met todo) : met.length ≤ l.length := nodup_lt_len h.nod h.lt
/-- the document's marks: those behind i are shut -/
structure Want (l : List Crt) (ds : List (List UInt8)) (k : Nat) (w : List Bool) (i : Nat) : Prop where
  len : w.length = l.length
  rch : ∀ j : Nat, w[j]? = some true → Rch l ds k j
  top : w[k]? = some true
  cl : ∀ m : Nat, i ≤ m → w[m]? = some true → ∀ j, StepH l ds m j → w[j]? = some true
theorem set_true {w : List Bool} {a j : Nat} (h : (w.set a true)[j]? = some true) : w[j]? = some true ∨ (j = a ∧ a < w.length) := by
  rw [List.getElem?_set] at h
  split at h
  · rename_i e
    split at h
    · exact .inr ⟨e.symm, by omega⟩
    · cases h
  · exact .inl h
theorem true_set {w : List Bool} {a j : Nat} (h : w[j]? = some true) : (w.set a true)[j]? = some true := by
  rw [List.getElem?_set]
  split
  · rename_i e
    subst e
    rw [if_pos (List.getElem?_eq_some_iff.1 h).1]
  · exact h
theorem Want.start (hg : GoodD l ds) {n : Nat} (hn : n = l.length) (hk : k < n) : Want l ds k ((List.replicate n false).set k true) n where
  len := by simp [hn]
  rch := fun j h => by
    rcases set_true h with h1 | ⟨h1, _⟩
    · rw [List.getElem?_replicate] at h1; split at h1 <;> cases h1
    · subst h1; exact .base
  top := by rw [List.getElem?_set]; simp [hk]
  cl := fun m hm _ j hs => by have := (stepH_lt hg hs).2; omega
/-- in the midst of one's parents -/
structure WantP (l : List Crt) (ds : List (List UInt8)) (k : Nat) (w : List Bool) (i : Nat) (c : Crt) (p : Nat) : Prop where
  want : Want l ds k w (i + 1)
  at_ : l[i]? = some c
  on : w[i]? = some true
  par : ∀ q (hq : q < c.hdr.parents.length), q < p → w[plc ds c.hdr.parents[q]]? = some true
theorem WantP.start {w : List Bool} {i : Nat} {c : Crt} (h : Want l ds k w (i + 1)) (hc : l[i]? = some c) (hs : w[i]? = some true) : WantP l ds k w i c 0 := ⟨h, hc, hs, fun q _ h => by omega⟩
theorem WantP.next (hg : GoodD l ds) {w : List Bool} {i p : Nat} {c : Crt} (h : WantP l ds k w i c p) (hp : p < c.hdr.parents.length) : WantP l ds k (w.set (plc ds c.hdr.parents[p]) true) i c (p + 1) := by
  have hlt := (hg.par i c h.at_ _ (List.getElem_mem hp)).2.1
  have hil : i < l.length := (List.getElem?_eq_some_iff.1 h.at_).1
  refine ⟨⟨by simp [h.want.len], fun j hj => ?_, true_set h.want.top, fun m hm hw j hs => ?_⟩, h.at_, true_set h.on, fun q hq hqp => ?_⟩
  · rcases set_true hj with h1 | ⟨rfl, _⟩
    · exact h.want.rch j h1
    · exact .step (h.want.rch i h.on) ⟨c, _, h.at_, List.getElem_mem hp, rfl⟩
  · rcases set_true hw with h1 | ⟨rfl, _⟩
    · exact true_set (h.want.cl m hm h1 j hs)
    · omega
  · by_cases e : q = p
    · subst e
      rw [List.getElem?_set]
      rw [if_pos rfl, if_pos (by have := h.want.len; omega)]
    · exact true_set (h.par q hq (by omega))
theorem WantP.done {w : List Bool} {i p : Nat} {c : Crt} (h : WantP l ds k w i c p) (hp : c.hdr.parents.length ≤ p) : Want l ds k w i := by
  refine ⟨h.want.len, h.want.rch, h.want.top, fun m hm hw j hs => ?_⟩
  by_cases e : m = i
  · subst e
    obtain ⟨c', q, hc', hq, rfl⟩ := hs
    rw [h.at_] at hc'
    obtain rfl := Option.some.inj hc'
    obtain ⟨n, hn, rfl⟩ := List.getElem_of_mem hq
    exact h.par n hn (by omega)
  · exact h.want.cl m (by omega) hw j hs
theorem Want.not {w : List Bool} {i : Nat} (h : Want l ds k w (i + 1)) (hs : w[i]? ≠ some true) : Want l ds k w i :=
  ⟨h.len, h.rch, h.top, fun m hm hw j hs' => by
    by_cases e : m = i
    · subst e; exact absurd hw hs
    · exact h.cl m (by omega) hw j hs'⟩
theorem Want.done {w : List Bool} (h : Want l ds k w 0) {i : Nat} : w[i]? = some true ↔ Rch l ds k i := by
  refine ⟨h.rch i, fun hr => ?_⟩
  induction hr with
  | base => exact h.top
  | step _ hs ih => exact h.cl _ (Nat.zero_le _) ih _ hs
/-- ahead of one another: by rounds, then by authors -/
def aheadH (l : List Crt) (i j : Nat) : Prop := ∃ a b, l[i]? = some a ∧ l[j]? = some b ∧ (a.hdr.round < b.hdr.round ∨ a.hdr.round = b.hdr.round ∧ a.hdr.author < b.hdr.author)
def pickH (l : List Crt) (w : List Bool) (r : Int) (n : Nat) : Option Nat := if 0 ≤ certI l n r ∧ w[(certI l n r).toNat]? = some true then some (certI l n r).toNat else none
def rowH (l : List Crt) (w : List Bool) (r : Int) : List Nat := (List.range 4).filterMap (pickH l w r)
def docH (l : List Crt) (w : List Bool) (top : Nat) : List Nat := (List.range top).flatMap fun r : Nat => rowH l w (1 + r)
theorem pickH_some {w : List Bool} {r : Int} {n i : Nat} (h : pickH l w r n = some i) : ∃ c, l[i]? = some c ∧ c.hdr.author = n ∧ c.hdr.round = r ∧ w[i]? = some true := by
  unfold pickH at h
  split at h
  · rename_i hh
    obtain rfl := Option.some.inj h
    rcases idxI_cases (isCert n r) l with ⟨h1, _⟩ | ⟨j, hj, h1, h2, _⟩
    · have : certI l n r = -1 := h1
      omega
    · have e : certI l n r = j := h1
      rw [e] at hh ⊢
      have := isCert_iff.1 h2
      exact ⟨l[j], by simp [hj], this.1, this.2, by simpa using hh.2⟩
  · cases h
theorem lone_index {l : List Crt} (h : Lone l) {i j : Nat} {a b : Crt} (hi : l[i]? = some a) (hj : l[j]? = some b) (h1 : a.hdr.author = b.hdr.author) (h2 : a.hdr.round = b.hdr.round) : i = j := by
  unfold Lone at h
  rw [List.pairwise_iff_getElem] at h
  obtain ⟨hi1, hi2⟩ := List.getElem?_eq_some_iff.1 hi
  obtain ⟨hj1, hj2⟩ := List.getElem?_eq_some_iff.1 hj
  subst hi2 hj2
  rcases Nat.lt_trichotomy i j with h3 | h3 | h3
  · exact absurd ⟨h1, h2⟩ (h i j hi1 hj1 h3)
  · exact h3
  · exact absurd ⟨h1.symm, h2.symm⟩ (h j i hj1 hi1 h3)
theorem pickH_of (hL : Lone l) {w : List Bool} {n i : Nat} {c : Crt} (hc : l[i]? = some c) (ha : c.hdr.author = n) (hw : w[i]? = some true) : pickH l w c.hdr.round n = some i := by
  obtain ⟨hi1, hi2⟩ := List.getElem?_eq_some_iff.1 hc
  have e : certI l n c.hdr.round = i := by
    rcases idxI_cases (isCert n c.hdr.round) l with ⟨_, h2⟩ | ⟨j, hj, h1, h2, _⟩
    · rw [List.any_eq_false] at h2
      exact absurd (isCert_iff.2 ⟨by rw [hi2]; exact ha, by rw [hi2]⟩) (h2 _ (List.getElem_mem hi1))
    · have h2 := isCert_iff.1 h2
      have : j = i := lone_index hL (show l[j]? = some l[j] by simp [hj]) hc (by rw [h2.1, ha]) h2.2
      rw [← this]; exact h1
  unfold pickH
  rw [e]
  exact if_pos ⟨by omega, by simpa using hw⟩
theorem mem_docH (hg : GoodD l ds) {w : List Bool} {top : Nat} (hw : ∀ (i : Nat) (c : Crt), w[i]? = some true → l[i]? = some c → c.hdr.round ≤ top) (hlen : w.length = l.length) {i : Nat} : i ∈ docH l w top ↔ w[i]? = some true := by
  unfold docH rowH
  rw [List.mem_flatMap]
  constructor
  · rintro ⟨r, _, hm⟩
    obtain ⟨n, _, hp⟩ := List.mem_filterMap.1 hm
    exact (pickH_some hp).choose_spec.2.2.2
  · intro h
    have hi : i < l.length := by have := (List.getElem?_eq_some_iff.1 h).1; omega
    have hc : l[i]? = some l[i] := by simp [hi]
    have ha := hg.auth _ (List.getElem_mem hi)
    have hr := hg.rnd _ (List.getElem_mem hi)
    have ht := hw i _ h hc
    refine ⟨(l[i].hdr.round - 1).toNat, List.mem_range.2 (by omega), List.mem_filterMap.2 ⟨l[i].hdr.author.toNat, List.mem_range.2 (by omega), ?_⟩⟩
    have := pickH_of hg.lone (n := l[i].hdr.author.toNat) hc (by omega) h
    rw [show (1 : Int) + ((l[i].hdr.round - 1).toNat : Nat) = l[i].hdr.round by omega]
    exact this
theorem docH_sorted {w : List Bool} {top : Nat} : (docH l w top).Pairwise (aheadH l) := by
  unfold docH
  rw [List.pairwise_flatMap]
  refine ⟨fun r _ => ?_, ?_⟩
  · unfold rowH
    rw [List.pairwise_filterMap]
    refine List.Pairwise.imp ?_ List.pairwise_lt_range
    intro a b hab x hx y hy
    obtain ⟨c, h1, h2, h3, _⟩ := pickH_some hx
    obtain ⟨c', k1, k2, k3, _⟩ := pickH_some hy
    exact ⟨c, c', h1, k1, .inr ⟨by rw [h3, k3], by omega⟩⟩
  · refine List.Pairwise.imp ?_ List.pairwise_lt_range
    intro a b hab x hx y hy
    obtain ⟨n, _, hp⟩ := List.mem_filterMap.1 hx
    obtain ⟨n', _, hp'⟩ := List.mem_filterMap.1 hy
    obtain ⟨c, h1, h2, h3, _⟩ := pickH_some hp
    obtain ⟨c', k1, k2, k3, _⟩ := pickH_some hp'
    exact ⟨c, c', h1, k1, .inl (by omega)⟩
theorem aheadH_irrefl {i : Nat} : ¬ aheadH l i i := by
  rintro ⟨a, b, h1, h2, h3⟩
  rw [h1] at h2
  obtain rfl := Option.some.inj h2
  omega
theorem nodup_ahead {m : List Nat} (h : m.Pairwise (aheadH l)) : m.Nodup := h.imp fun {a b} hab e => by subst e; exact aheadH_irrefl hab
/-- the same ones in the same order -/
theorem hist_is (hg : GoodD l ds) {w : List Bool} {top : Nat} {met out : List Nat} (hw : Want l ds k w 0) (htop : ∀ (i : Nat) (c : Crt), w[i]? = some true → l[i]? = some c → c.hdr.round ≤ top)
    (hm : Dfs l ds k met []) (hp : out.Perm ((List.range l.length).filter fun i => decide (i ∈ met))) (hs : out.Pairwise fun i j => ¬ aheadH l j i) : out = docH l w top := by
  have hmem : ∀ i, i ∈ out ↔ w[i]? = some true := fun i => by
    rw [hp.mem_iff, List.mem_filter, hw.done, ← hm.done]
    simp
    exact hm.lt i
  have hnd : out.Nodup := by
    rw [hp.nodup_iff]
    exact List.Pairwise.sublist List.filter_sublist List.nodup_range
  have hpd : out.Perm (docH l w top) := (List.perm_ext_iff_of_nodup hnd (nodup_ahead docH_sorted)).2 fun i => by rw [hmem, mem_docH hg htop hw.len]
  refine List.Perm.eq_of_pairwise (le := fun i j => ¬ aheadH l j i) (fun a b ha hb h1 h2 => ?_) hs (docH_sorted.imp fun {a b} h h' => ?_) hpd
  · have ha' := (hmem a).1 ha
    have hb' := (mem_docH hg htop hw.len).1 hb
    have hla : a < l.length := by have := (List.getElem?_eq_some_iff.1 ha').1; have := hw.len; omega
    have hlb : b < l.length := by have := (List.getElem?_eq_some_iff.1 hb').1; have := hw.len; omega
    have ea : l[a]? = some l[a] := by simp [hla]
    have eb : l[b]? = some l[b] := by simp [hlb]
    by_cases e1 : l[a].hdr.round = l[b].hdr.round
    · by_cases e2 : l[a].hdr.author = l[b].hdr.author
      · exact lone_index hg.lone ea eb e2 e1
      · by_cases e3 : l[a].hdr.author < l[b].hdr.author
        · exact absurd ⟨_, _, ea, eb, .inr ⟨e1, e3⟩⟩ h2
        · exact absurd ⟨_, _, eb, ea, .inr ⟨e1.symm, by omega⟩⟩ h1
    · by_cases e3 : l[a].hdr.round < l[b].hdr.round
      · exact absurd ⟨_, _, ea, eb, .inl e3⟩ h2
      · exact absurd ⟨_, _, eb, ea, .inl (by omega)⟩ h1
  · obtain ⟨x, y, h1, h2, h3⟩ := h
    obtain ⟨x', y', k1, k2, k3⟩ := h'
    rw [h1] at k2
    rw [h2] at k1
    obtain rfl := Option.some.inj k1
    obtain rfl := Option.some.inj k2
    omega
theorem goodD_of {dg : Hdr → List UInt8} {cF : Crt → Int} {l : List Crt} (h : dagF dg cF l = 0) (hA : Auth l) (hr : ∀ c ∈ l, 1 ≤ c.hdr.round) (hf : ∀ c ∈ l, c.hdr.parents.length ≤ 4) : GoodD l (dsOf dg l) := by
  obtain ⟨_, _, hb⟩ := dagF_zero h
  refine ⟨fun i c hc p hp => ?_, hf, badC_lone hb, hA, hr⟩
  obtain ⟨hi, rfl⟩ := List.getElem?_eq_some_iff.1 hc
  have hbi := hb i hi
  unfold badC at hbi
  rw [hc] at hbi
  simp only [Bool.or_eq_false_iff, decide_eq_false_iff_not, Decidable.not_not] at hbi
  have hpar := hbi.2
  unfold parF at hpar
  split at hpar
  · cases hpar
  · rename_i hmw
    split at hpar
    · rename_i hmn
      have h0 : 0 ≤ placeI ((dsOf dg l).take i) p := by
        have hn := List.eq_nil_of_length_eq_zero hmn
        unfold missN at hn
        rw [List.filter_eq_nil_iff] at hn
        have := hn p hp
        simp at this
        exact this
      obtain ⟨e1, e2, e3⟩ := placeI_take h0
      have e3' : plc (dsOf dg l) p < l.length := by unfold dsOf at e3 ⊢; simpa using e3
      refine ⟨by rw [e1]; exact h0, e2, l[plc (dsOf dg l) p], by simp [e3'], ?_⟩
      have hw : wrongP (l.take i) ((dsOf dg l).take i) l[i].hdr.round p = false := by
        unfold missW at hmw
        rw [Bool.not_eq_true, List.any_eq_false] at hmw
        simpa using hmw p hp
      unfold wrongP at hw
      rw [← e1] at hw
      have hget : (l.take i)[(placeI (dsOf dg l) p).toNat]? = some l[plc (dsOf dg l) p] := by
        unfold plc at e2 e3' ⊢
        rw [List.getElem?_take, if_pos e2]
        simp [e3']
      rw [hget] at hw
      simp only [Bool.and_eq_false_iff, decide_eq_false_iff_not, bne_eq_false_iff_eq] at hw
      rcases hw with hw | hw
      · rw [e1] at hw; exact absurd h0 hw
      · exact hw
    · cases hpar
end
end Go.Proofs.YtbcoecmeoemmeaaGreatDoor
